import Derived.Test.YtlppkilencpmeaaGreatQFnGrowthx
import Derived.Test.YtlppkilencpmeaaGreatGs
import Derived.Test.YtlppkilencpmeaaGreatWWords
import Derived.Maps.OwnSet
import Derived.Laws.Bits64b
import Derived.Lib.SlicesCompact
namespace Go.Proofs.YtlppkilencpmeaaGreat.Tr
open Go.RowKit Go.Proofs.YtlppkilencpmeaaGreatW.PrintWords
set_option linter.unusedSimpArgs false
set_option linter.unusedVariables false
inductive F where
  | nil:F
  | cons:F→F→F
  deriving DecidableEq
namespace F
def size:F→Nat
  | nil=>0
  | cons b n=>1+b.size+n.size
def len:F→Nat
  | nil=>0
  | cons _ n=>1+n.len
def enc:F→List Int
  | nil=>[]
  | cons b n=>(b.len:Int) :: (b.enc++n.enc)
def app:F→F→F
  | nil,g=>g
  | cons b n,g=>cons b (n.app g)
def roots:F→Nat→List Int
  | nil,_=>[]
  | cons b n,p=>(p:Int) :: n.roots (p+1+b.size)
def depths:F→Int→List Int
  | nil,_=>[]
  | cons b n,k=>k :: (b.depths (k+1)++n.depths k)
theorem enc_len (f:F):f.enc.length=f.size:=by
  induction f with
  | nil=>rfl
  | cons b n hb hn=>simp [enc,size,hb,hn];omega
theorem roots_len (f:F):∀ p,(f.roots p).length=f.len:=by
  induction f with
  | nil=>intro p;rfl
  | cons b n hb hn=>intro p;simp [roots,len,hn];omega
theorem len_le (f:F):f.len≤f.size:=by
  induction f with
  | nil=>exact Nat.le_refl _
  | cons b n hb hn=>simp [len,size];omega
theorem app_len (f g:F):(f.app g).len=f.len+g.len:=by
  induction f with
  | nil=>simp [app,len]
  | cons b n _ hn=>simp [app,len,hn];omega
theorem app_size (f g:F):(f.app g).size=f.size+g.size:=by
  induction f with
  | nil=>simp [app,size]
  | cons b n _ hn=>simp [app,size,hn];omega
theorem app_enc (f g:F):(f.app g).enc=f.enc++g.enc:=by
  induction f with
  | nil=>simp [app,enc]
  | cons b n _ hn=>simp [app,enc,hn]
theorem len_zero {f:F} (h:f.len=0):f=nil:=by
  cases f with
  | nil=>rfl
  | cons b n=>simp [len] at h
theorem split:∀ (g:F) (i:Nat),i≤g.len→∃ b n:F,g=b.app n∧b.len=i
  | g,0,_=>⟨nil,g,rfl,rfl⟩
  | nil,i+1,h=>by simp [len] at h
  | cons b n,i+1,h=>by
    obtain ⟨x,y,rfl,hx⟩:=split n i (by simp [len] at h;omega)
    exact ⟨cons b x,y,rfl,by simp only [len,hx];omega⟩
theorem enc_inj:∀ (f g:F) (s t:List Int),f.len=g.len→f.enc++s=g.enc++t→f=g∧s=t:=by
  intro f
  induction f with
  | nil =>
    intro g s t hl h
    obtain rfl:=len_zero (f:=g) (by simp [len] at hl;omega)
    exact ⟨rfl,by simpa [enc] using h⟩
  | cons b n hb hn =>
    intro g s t hl h
    cases g with
    | nil=>simp [len] at hl
    | cons b' n' =>
      simp only [enc,List.cons_append,List.cons.injEq,List.append_assoc] at h
      obtain ⟨h1,h2⟩:=h
      obtain ⟨rfl,h3⟩:=hb b' _ _ (by omega) h2
      obtain ⟨rfl,rfl⟩:=hn n' _ _ (by simp [len] at hl;omega) h3
      exact ⟨rfl,rfl⟩
end F
def Pl (d:List Int) (p:Nat) (g:F):Prop:=∃ pre post,d=pre++g.enc++post∧pre.length=p
theorem rd_app (pre s:List Int) (i:Nat):rd (pre++s) ((pre.length+i:Nat):Int)=rd s (i:Nat):=by
  unfold rd
  rw [Int.toNat_natCast,Int.toNat_natCast,List.getD_eq_getElem?_getD,List.getD_eq_getElem?_getD,List.getElem?_append_right (by omega)]
  congr 2
  omega
theorem rd_app0 (pre s:List Int):rd (pre++s) (pre.length:Int)=rd s 0:=by
  have:=rd_app pre s 0
  simpa using this
theorem rd_cons0 (x:Int) (s:List Int):rd (x :: s) 0=x:=by simp [rd]
theorem rd_mem {l:List Int} {i:Int} (h0:0≤i) (h:i<l.length):rd l i∈l:=by
  unfold rd
  rw [List.getD_eq_getElem?_getD,List.getElem?_eq_getElem (by omega)]
  exact List.getElem_mem _
theorem rd_getElem {l:List Int} {i:Nat} (h:i<l.length):rd l (i:Int)=l[i]:=by
  unfold rd
  rw [List.getD_eq_getElem?_getD,Int.toNat_natCast,List.getElem?_eq_getElem h];rfl
namespace Pl
theorem le {d:List Int} {p:Nat} {g:F} (h:Pl d p g):p+g.size≤d.length:=by
  obtain ⟨pre,post,rfl,rfl⟩:=h
  simp only [List.length_append,F.enc_len];omega
theorem whole (g:F):Pl g.enc 0 g:=⟨[],[],by simp,rfl⟩
theorem deg {d:List Int} {p:Nat} {b n:F} (h:Pl d p (.cons b n)):rd d (p:Int)=b.len:=by
  obtain ⟨pre,post,rfl,rfl⟩:=h
  rw [List.append_assoc,rd_app0]
  simp [F.enc,rd]
theorem below {d:List Int} {p:Nat} {b n:F} (h:Pl d p (.cons b n)):Pl d (p+1) b:=by
  obtain ⟨pre,post,rfl,rfl⟩:=h
  exact ⟨pre++[(b.len:Int)],n.enc++post,by simp [F.enc],by simp⟩
theorem next {d:List Int} {p:Nat} {b n:F} (h:Pl d p (.cons b n)):Pl d (p+1+b.size) n:=by
  obtain ⟨pre,post,rfl,rfl⟩:=h
  exact ⟨pre++(b.len:Int) :: b.enc,post,by simp [F.enc],by simp [F.enc_len];omega⟩
theorem one {d:List Int} {p:Nat} {b n:F} (h:Pl d p (.cons b n)):Pl d p (.cons b .nil):=by
  obtain ⟨pre,post,rfl,rfl⟩:=h
  exact ⟨pre,n.enc++post,by simp [F.enc],rfl⟩
theorem at_:∀ {g:F} {d:List Int} {p:Nat} (_:Pl d p g) (v:Nat),p≤v→v<p+g.size→∃ b n,Pl d v (.cons b n)∧v+1+b.size≤p+g.size:=by
  intro g
  induction g with
  | nil=>intro d p h v h1 h2;simp [F.size] at h2;omega
  | cons b n hb hn =>
    intro d p h v h1 h2
    simp only [F.size] at h2
    by_cases e:v=p
    · subst e;exact ⟨b,n,h,by simp [F.size];omega⟩
    · by_cases h3:v<p+1+b.size
      · obtain ⟨x,y,hp,hx⟩:=hb h.below v (by omega) h3
        exact ⟨x,y,hp,by simp [F.size];omega⟩
      · obtain ⟨x,y,hp,hx⟩:=hn h.next v (by omega) (by omega)
        exact ⟨x,y,hp,by simp [F.size];omega⟩
end Pl
def ok:List Int→Int→Bool
  | [],m=>m == 0
  | x :: xs,m=>m != 0 && (decide (0≤x) && (decide (x<24) && ok xs (m - 1+x)))
def isT (d:List Int):Bool:=decide (1≤d.length) && (decide (d.length≤24) && ok d 1)
theorem ok_enc:∀ (l:List Int) (m:Int),0≤m→ok l m=true→∃ g:F,l=g.enc∧(g.len:Int)=m:=by
  intro l
  induction l with
  | nil=>intro m _ h;exact ⟨.nil,rfl,by simp [ok] at h;simp [F.len,h]⟩
  | cons x xs ih =>
    intro m hm h
    simp only [ok,Bool.and_eq_true,bne_iff_ne,decide_eq_true_eq] at h
    obtain ⟨h0,h1,h2,h3⟩:=h
    obtain ⟨g,rfl,hg⟩:=ih (m - 1+x) (by omega) h3
    obtain ⟨b,n,rfl,hb⟩:=F.split g x.toNat (by omega)
    refine ⟨.cons b n,?_,?_⟩
    · simp only [F.enc,F.app_enc,List.cons.injEq,and_true];omega
    · rw [F.app_len] at hg;simp only [F.len];omega
theorem enc_ok:∀ (g:F) (s:List Int) (j:Nat),g.size<24→ok (g.enc++s) (g.len+j)=ok s j:=by
  intro g
  induction g with
  | nil=>intro s j _;simp [F.enc,F.len]
  | cons b n hb hn =>
    intro s j hs
    simp only [F.size] at hs
    have h1:=hb (n.enc++s) (n.len+j) (by omega)
    have h2:=hn s j (by omega)
    have hl:=F.len_le b
    have e:((1+n.len:Nat):Int)+(j:Int) - 1+(b.len:Int)=(b.len:Int)+((n.len+j:Nat):Int):=by omega
    have e2:((n.len+j:Nat):Int)=(n.len:Int)+(j:Int):=by omega
    have hne:((1+n.len:Nat):Int)+(j:Int)≠0:=by omega
    simp only [F.enc,F.len,List.cons_append,ok,List.append_assoc,e,h1]
    rw [e2,h2]
    have hb0:(0:Int)≤(b.len:Int):=by omega
    have hb1:(b.len:Int)<24:=by omega
    rw [bne_iff_ne.mpr hne,decide_eq_true hb0,decide_eq_true hb1]
    rfl
theorem isT_iff (d:List Int):isT d=true↔∃ b:F,d=(F.cons b .nil).enc∧1+b.size≤24:=by
  constructor
  · intro h
    simp only [isT,Bool.and_eq_true,decide_eq_true_eq] at h
    obtain ⟨h0,h1,h2⟩:=h
    obtain ⟨g,rfl,hg⟩:=ok_enc d 1 (by omega) h2
    cases g with
    | nil=>simp [F.len] at hg
    | cons b n =>
      obtain rfl:=F.len_zero (f:=n) (by simp [F.len] at hg;omega)
      refine ⟨b,rfl,?_⟩
      simp [F.enc_len,F.size] at h1
      omega
  · rintro ⟨b,rfl,hb⟩
    simp only [isT,Bool.and_eq_true,decide_eq_true_eq,F.enc_len,F.size]
    refine ⟨by omega,by omega,?_⟩
    have h1:=enc_ok b [] 0 (by omega)
    have hl:=F.len_le b
    have e:(1:Int) - 1+(b.len:Int)=(b.len:Int)+((0:Nat):Int):=by omega
    simp only [F.enc,ok,List.append_nil] at h1 ⊢
    rw [e,h1]
    have hb1:(b.len:Int)<24:=by omega
    simp [hb1]
def ok25:List Int→Int→Bool
  | [],m=>m == 0
  | x :: xs,m=>m != 0 && (decide (0≤x∧x≤24) && ok25 xs (m - 1+x))
theorem ok25_short:∀ (l:List Int) (m:Int),l.length<m→ok25 l m=false:=by
  intro l
  induction l with
  | nil=>intro m h;simp [ok25] at h ⊢;omega
  | cons x l ih =>
    intro m h
    by_cases hx:0≤x∧x≤24
    · simp only [ok25,ih (m - 1+x) (by simp only [List.length_cons] at h;omega),Bool.and_false]
    · simp only [ok25,decide_eq_false hx,Bool.false_and,Bool.and_false]
theorem ok25_eq:∀ (l:List Int) (m:Int),0≤m→l.length≤24→ok25 l m=ok l m:=by
  intro l
  induction l with
  | nil=>intro m _ _;rfl
  | cons x l ih =>
    intro m hm hl
    simp only [List.length_cons] at hl
    by_cases h0:m=0
    · simp [ok25,ok,h0]
    by_cases hx:0≤x
    · by_cases hy:x<24
      · simp only [ok25,ok,ih (m - 1+x) (by omega) (by omega),decide_eq_true hx,decide_eq_true hy,decide_eq_true (⟨hx,by omega⟩:0≤x∧x≤24),Bool.true_and]
      · simp only [ok25,ok,decide_eq_false hy,Bool.false_and,Bool.and_false]
        by_cases hz:x=24
        · simp only [ok25_short l (m - 1+x) (by omega),Bool.and_false]
        · simp only [decide_eq_false (by omega:¬ (0≤x∧x≤24)),Bool.false_and,Bool.and_false]
    · simp only [ok25,ok,decide_eq_false hx,decide_eq_false (fun h=>hx h.1:¬ (0≤x∧x≤24)),Bool.false_and,Bool.and_false]
theorem isT_eq25 (d:List Int) (h0:1≤d.length) (h1:d.length≤24):isT d=ok25 d 1:=by
  rw [ok25_eq d 1 (by omega) h1]
  simp only [isT,decide_eq_true h0,decide_eq_true h1,Bool.true_and]
theorem wrap_id {x:Int} (h0:-9223372036854775808≤x) (h1:x<9223372036854775808):wrap64 x=x:=by
  unfold wrap64;omega
theorem isT_at {d:List Int} (h:isT d=true):∃ b:F,d=(F.cons b .nil).enc∧1+b.size≤24∧d.length=1+b.size∧Pl d 0 (.cons b .nil):=by
  obtain ⟨b,rfl,hb⟩:=(isT_iff d).1 h
  exact ⟨b,rfl,hb,by rw [F.enc_len];simp [F.size],Pl.whole _⟩
theorem wrap_succ {i:Nat} (h:i≤1000000000000):wrap64 ((i:Int)+1)=((i+1:Nat):Int):=by
  rw [wrap_id (by omega) (by omega)];omega
end Go.Proofs.YtlppkilencpmeaaGreat.Tr
namespace Go.Proofs.YtlppkilencpmeaaGreat.Tr
open Go.RowKit Go.Proofs.YtlppkilencpmeaaGreatW.PrintWords
set_option linter.unusedSimpArgs false
set_option linter.unusedVariables false
namespace F
def sub:F→Nat→F
  | nil,_=>nil
  | cons b n,v=>if v=0 then b else if v<1+b.size then b.sub (v - 1) else n.sub (v - 1 - b.size)
def par:F→Nat→Int→Nat→Int
  | nil,_,q,_=>q
  | cons b n,p,q,c=>if c=p then q else if c<p+1+b.size then b.par (p+1) p c else n.par (p+1+b.size) q c
theorem sub_zero (b n:F):(cons b n).sub 0=b:=by simp [sub]
theorem sub_left {b n:F} {v:Nat} (h0:1≤v) (h:v<1+b.size):(cons b n).sub v=b.sub (v - 1):=by
  rw [sub,if_neg (by omega),if_pos h]
theorem sub_right {b n:F} {v:Nat} (h:1+b.size≤v):(cons b n).sub v=n.sub (v - 1 - b.size):=by
  rw [sub,if_neg (by omega),if_neg (by omega)]
theorem sub_fits:∀ (g:F) (v:Nat),v<g.size→v+1+(g.sub v).size≤g.size:=by
  intro g
  induction g with
  | nil=>intro v h;simp [size] at h
  | cons b n hb hn =>
    intro v h
    simp only [size] at h ⊢
    by_cases h0:v=0
    · subst h0;rw [sub_zero];omega
    · by_cases h1:v<1+b.size
      · rw [sub_left (by omega) h1]
        have:=hb (v - 1) (by omega);omega
      · rw [sub_right (by omega)]
        have:=hn (v - 1 - b.size) (by omega);omega
theorem par_range:∀ (g:F) (p:Nat) (q:Int) (c:Nat),p≤c→c<p+g.size→g.par p q c=q∨((p:Int)≤g.par p q c∧g.par p q c<c):=by
  intro g
  induction g with
  | nil=>intro p q c h1 h2;simp [size] at h2;omega
  | cons b n hb hn =>
    intro p q c h1 h2
    simp only [size] at h2
    rw [par]
    by_cases e:c=p
    · rw [if_pos e];exact .inl rfl
    · rw [if_neg e]
      by_cases h3:c<p+1+b.size
      · rw [if_pos h3]
        rcases hb (p+1) p c (by omega) h3 with h|h
        · rw [h];omega
        · omega
      · rw [if_neg h3]
        rcases hn (p+1+b.size) q c (by omega) (by omega) with h|h
        · exact .inl h
        · omega
theorem roots_range:∀ (g:F) (p:Nat) (c:Int),c∈g.roots p→(p:Int)≤c∧c<p+g.size:=by
  intro g
  induction g with
  | nil=>intro p c h;simp [roots] at h
  | cons b n hb hn =>
    intro p c h
    simp only [roots,List.mem_cons] at h
    simp only [size]
    rcases h with rfl|h
    · omega
    · have:=hn _ _ h;omega
theorem roots_par:∀ (g:F) (p:Nat) (q:Int) (c:Nat),q<p→p≤c→c<p+g.size→((c:Int)∈g.roots p↔g.par p q c=q):=by
  intro g
  induction g with
  | nil=>intro p q c hq h1 h2;simp [size] at h2;omega
  | cons b n hb hn =>
    intro p q c hq h1 h2
    simp only [size] at h2
    rw [par,roots,List.mem_cons]
    by_cases e:c=p
    · rw [if_pos e];simp [e]
    · rw [if_neg e]
      by_cases h3:c<p+1+b.size
      · rw [if_pos h3]
        constructor
        · rintro (h|h)
          · omega
          · have:=roots_range _ _ _ h;omega
        · intro h
          rcases par_range b (p+1) p c (by omega) h3 with h'|h' <;> omega
      · rw [if_neg h3]
        have:=hn (p+1+b.size) q c (by omega) (by omega) (by omega)
        rw [← this]
        constructor
        · rintro (h|h)
          · omega
          · exact h
        · exact fun h=>.inr h
theorem kids_par:∀ (g:F) (p:Nat) (q:Int) (v c:Nat),q<p→p≤v→v<p+g.size→p≤c→c<p+g.size →
    ((c:Int)∈(g.sub (v - p)).roots (v+1)↔g.par p q c=v):=by
  intro g
  induction g with
  | nil=>intro p q v c hq h1 h2;simp [size] at h2;omega
  | cons b n hb hn =>
    intro p q v c hq h1 h2 h3 h4
    simp only [size] at h2 h4
    rw [par]
    by_cases ev:v=p
    · subst ev
      rw [Nat.sub_self,sub_zero]
      by_cases e:c=v
      · rw [if_pos e]
        constructor
        · intro h;have:=roots_range _ _ _ h;omega
        · intro h;omega
      · rw [if_neg e]
        by_cases h5:c<v+1+b.size
        · rw [if_pos h5];exact roots_par b (v+1) v c (by omega) (by omega) h5
        · rw [if_neg h5]
          constructor
          · intro h;have:=roots_range _ _ _ h;omega
          · intro h
            rcases par_range n (v+1+b.size) q c (by omega) (by omega) with h'|h' <;> omega
    · by_cases hv:v<p+1+b.size
      · rw [sub_left (by omega) (by omega),show v - p - 1=v - (p+1) by omega]
        by_cases e:c=p
        · rw [if_pos e]
          constructor
          · intro h;have:=roots_range _ _ _ h;omega
          · intro h;omega
        · rw [if_neg e]
          by_cases h5:c<p+1+b.size
          · rw [if_pos h5];exact hb (p+1) p v c (by omega) (by omega) (by omega) (by omega) h5
          · rw [if_neg h5]
            constructor
            · intro h
              have:=roots_range _ _ _ h
              have:=sub_fits b (v - (p+1)) (by omega)
              omega
            · intro h
              rcases par_range n (p+1+b.size) q c (by omega) (by omega) with h'|h' <;> omega
      · rw [sub_right (by omega),show v - p - 1 - b.size=v - (p+1+b.size) by omega]
        by_cases e:c=p
        · rw [if_pos e]
          constructor
          · intro h;have:=roots_range _ _ _ h;omega
          · intro h;omega
        · rw [if_neg e]
          by_cases h5:c<p+1+b.size
          · rw [if_pos h5]
            constructor
            · intro h;have:=roots_range _ _ _ h;omega
            · intro h
              rcases par_range b (p+1) p c (by omega) h5 with h'|h' <;> omega
          · rw [if_neg h5];exact hn (p+1+b.size) q v c (by omega) (by omega) (by omega) (by omega) (by omega)
theorem par_self {p:Nat} {b n:F} {q:Int}:(cons b n).par p q p=q:=by simp [par]
end F
theorem Pl.nth:∀ {g:F} {d:List Int} {p:Nat} (_:Pl d p g) (v:Nat),v<g.size→∃ n,Pl d (p+v) (.cons (g.sub v) n):=by
  intro g
  induction g with
  | nil=>intro d p h v h2;simp [F.size] at h2
  | cons b n hb hn =>
    intro d p h v h2
    simp only [F.size] at h2
    by_cases e:v=0
    · subst e;rw [F.sub_zero];exact ⟨n,h⟩
    · by_cases h3:v<1+b.size
      · rw [F.sub_left (by omega) h3]
        obtain ⟨m,hm⟩:=hb h.below (v - 1) (by omega)
        exact ⟨m,by rw [show p+v=p+1+(v - 1) by omega];exact hm⟩
      · rw [F.sub_right (by omega)]
        obtain ⟨m,hm⟩:=hn h.next (v - 1 - b.size) (by omega)
        exact ⟨m,by rw [show p+v=p+1+b.size+(v - 1 - b.size) by omega];exact hm⟩
structure Tree (d:List Int) (t:F):Prop where
  enc:d=t.enc
  one:∃ b,t=.cons b .nil
  few:t.size≤24
theorem Tree.of {d:List Int} (h:isT d=true):∃ t,Tree d t:=by
  obtain ⟨b,rfl,hb,_,_⟩:=isT_at h
  exact ⟨.cons b .nil,rfl,⟨b,rfl⟩,by simp only [F.size];omega⟩
theorem isT_cases (d:List Int):isT d=false∨∃ t,Tree d t:=by
  cases h:isT d with
  | false=>exact .inl rfl
  | true=>exact .inr (Tree.of h)
namespace Tree
variable {d:List Int} {t:F}
theorem isT (h:Tree d t):isT d=true:=by
  obtain ⟨rfl,⟨b,rfl⟩,hf⟩:=h
  exact (isT_iff _).2 ⟨b,rfl,by simp only [F.size] at hf;omega⟩
theorem len (h:Tree d t):d.length=t.size:=by rw [h.enc,F.enc_len]
theorem le (h:Tree d t):d.length≤24:=by rw [h.len];exact h.few
theorem pos (h:Tree d t):1≤t.size:=by obtain ⟨_,⟨b,rfl⟩,_⟩:=h;simp only [F.size];omega
theorem pl (h:Tree d t):Pl d 0 t:=by rw [h.enc];exact Pl.whole _
theorem node (h:Tree d t) {v:Nat} (hv:v<t.size):∃ n,Pl d v (.cons (t.sub v) n):=by
  have:=h.pl.nth v hv
  rwa [Nat.zero_add] at this
theorem deg (h:Tree d t) {v:Nat} (hv:v<t.size):rd d (v:Int)=(t.sub v).len:=by
  obtain ⟨n,hp⟩:=h.node hv
  exact hp.deg
theorem fits (h:Tree d t) {v:Nat} (hv:v<t.size):v+1+(t.sub v).size≤t.size:=F.sub_fits t v hv
theorem par_zero (h:Tree d t):t.par 0 (-1) 0=-1:=by obtain ⟨_,⟨b,rfl⟩,_⟩:=h;exact F.par_self
theorem par_pos (h:Tree d t) {c:Nat} (h1:1≤c) (hc:c<t.size):0≤t.par 0 (-1) c∧t.par 0 (-1) c<c:=by
  obtain ⟨rfl,⟨b,rfl⟩,_⟩:=h
  simp only [F.size] at hc
  rw [F.par,if_neg (by omega),if_pos (by omega)]
  rcases F.par_range b (0+1) ((0:Nat):Int) c (by omega) (by omega) with h'|h' <;> omega
theorem par_lt (h:Tree d t) {c:Nat} (hc:c<t.size):-1≤t.par 0 (-1) c∧t.par 0 (-1) c<c:=by
  by_cases e:c=0
  · subst e;rw [h.par_zero];omega
  · have:=h.par_pos (c:=c) (by omega) hc;omega
theorem kids (h:Tree d t) {v c:Nat} (hv:v<t.size) (hc:c<t.size):(c:Int)∈(t.sub v).roots (v+1)↔t.par 0 (-1) c=v:=by
  have:=F.kids_par t 0 (-1) v c (by omega) (by omega) (by omega) (by omega) (by omega)
  rwa [Nat.sub_zero] at this
theorem kid_range (h:Tree d t) {v:Nat} (hv:v<t.size) {c:Int} (hc:c∈(t.sub v).roots (v+1)):(v:Int)<c∧c<t.size:=by
  have h1:=F.roots_range _ _ _ hc
  have h2:=h.fits hv
  omega
end Tree
def each (n:Nat) (f:Nat→Int):List Int:=(List.range n).map f
theorem each_len (n:Nat) (f:Nat→Int):(each n f).length=n:=by simp [each]
theorem each_rd {n:Nat} {f:Nat→Int} {v:Nat} (h:v<n):rd (each n f) (v:Int)=f v:=by
  rw [rd_getElem (by rw [each_len];exact h)]
  simp [each]
theorem each_succ (n:Nat) (f:Nat→Int):each (n+1) f=each n f++[f n]:=by simp [each,List.range_succ]
theorem each_eq {n:Nat} {f:Nat→Int} {l:List Int} (hl:l.length=n) (h:∀ v,v<n→rd l (v:Int)=f v):l=each n f:=by
  apply List.ext_getElem
  · rw [each_len,hl]
  · intro i h1 h2
    have:=h i (by omega)
    rw [rd_getElem h1] at this
    rw [this];simp [each]
def setAll (out:List Int) (l:List Int) (v:Int):List Int:=l.foldl (fun o c=>o.set c.toNat v) out
theorem setAll_len (l:List Int) (v:Int):∀ out,(setAll out l v).length=out.length:=by
  induction l with
  | nil=>intro out;rfl
  | cons c l ih=>intro out;simp only [setAll,List.foldl_cons];exact (ih _).trans (by simp)
theorem rd_set {l:List Int} {c:Int} {x:Int} {i:Nat} (hi:i<l.length) (h0:0≤c):rd (l.set c.toNat x) (i:Int)=if c=i then x else rd l (i:Int):=by
  rw [rd_getElem (by simpa using hi),rd_getElem hi,List.getElem_set]
  by_cases e:c.toNat=i
  · rw [if_pos e,if_pos (by omega)]
  · rw [if_neg e,if_neg (by omega)]
theorem setAll_rd (v:Int):∀ (l:List Int) (out:List Int) (i:Nat),(∀ c∈l,0≤c)→i<out.length→rd (setAll out l v) (i:Int)=if (i:Int)∈l then v else rd out (i:Int):=by
  intro l
  induction l with
  | nil=>intro out i _ _;simp [setAll]
  | cons c l ih =>
    intro out i h0 hi
    have h1:=ih (out.set c.toNat v) i (fun x hx=>h0 x (List.mem_cons_of_mem _ hx)) (by simpa using hi)
    simp only [setAll,List.foldl_cons] at h1 ⊢
    rw [h1,rd_set hi (h0 c (List.mem_cons_self ..))]
    by_cases e:(i:Int)∈l
    · rw [if_pos e,if_pos (List.mem_cons_of_mem _ e)]
    · rw [if_neg e]
      by_cases e2:c=i
      · rw [if_pos e2,if_pos (by rw [e2];exact List.mem_cons_self ..)]
      · rw [if_neg e2,if_neg (by simp only [List.mem_cons,not_or];exact ⟨fun h=>e2 h.symm,e⟩)]
def parentsL (t:F):List Int:=each t.size (t.par 0 (-1))
end Go.Proofs.YtlppkilencpmeaaGreat.Tr
namespace Go.Proofs.YtlppkilencpmeaaGreat.Tr
open Go.RowKit Go.Proofs.YtlppkilencpmeaaGreatW.PrintWords
set_option linter.unusedSimpArgs false
set_option linter.unusedVariables false
theorem rdOf_set {l:List Bool} {c:Int} {x:Bool} {i:Nat} (hi:i<l.length) (h0:0≤c):rdOf false (l.set c.toNat x) (i:Int)=if c=i then x else rdOf false l (i:Int):=by
  unfold rdOf
  rw [Int.toNat_natCast,List.getD_eq_getElem?_getD,List.getD_eq_getElem?_getD,List.getElem?_set]
  by_cases e:c.toNat=i
  · rw [if_pos e,if_pos (by omega:c=i),if_pos (by omega)];rfl
  · rw [if_neg e,if_neg (by omega:¬ c=i)]
theorem rdOf_rep {n i:Nat}:rdOf false (List.replicate n false) (i:Int)=false:=by
  unfold rdOf
  rw [Int.toNat_natCast,List.getD_eq_getElem?_getD,List.getElem?_replicate]
  split <;> rfl
def canNext (t:F) (beg:List Int) (v:Nat):Bool:=decide (¬ (v:Int)∈beg) && (decide (v=0) || decide (t.par 0 (-1) v∈beg))
def nxtTo (t:F) (beg:List Int) (m:Nat):List Int:=((List.range m).filter (canNext t beg)).map (fun v:Nat=>(v:Int))
def nxt (t:F) (beg:List Int):List Int:=nxtTo t beg t.size
theorem nxtTo_succ (t:F) (beg:List Int) (m:Nat):nxtTo t beg (m+1)=if canNext t beg m=true then nxtTo t beg m++[(m:Int)] else nxtTo t beg m:=by
  unfold nxtTo
  rw [List.range_succ,List.filter_append,List.map_append]
  by_cases h:canNext t beg m=true
  · rw [if_pos h];simp [h]
  · rw [if_neg h];simp [h]
theorem nxtTo_len (t:F) (beg:List Int) (m:Nat):(nxtTo t beg m).length≤m:=by
  unfold nxtTo
  rw [List.length_map]
  exact Nat.le_trans (List.length_filter_le _ _) (by simp)
theorem nxt_mem {t:F} {beg:List Int} {c:Int}:c∈nxt t beg↔∃ v:Nat,c=v∧v<t.size∧canNext t beg v=true:=by
  unfold nxt nxtTo
  simp only [List.mem_map,List.mem_filter,List.mem_range]
  constructor
  · rintro ⟨v,⟨h1,h2⟩,rfl⟩;exact ⟨v,rfl,h1,h2⟩
  · rintro ⟨v,rfl,h1,h2⟩;exact ⟨v,⟨h1,h2⟩,rfl⟩
def upto (m:Nat):List Int:=each m (fun v=>(v:Int))
theorem upto_mem {m:Nat} {c:Int}:c∈upto m↔0≤c∧c<m:=by
  unfold upto each
  simp only [List.mem_map,List.mem_range]
  constructor
  · rintro ⟨v,h,rfl⟩;omega
  · rintro ⟨h0,h1⟩;exact ⟨c.toNat,by omega,by omega⟩
theorem nxt_upto {d:List Int} {t:F} (h:Tree d t) {m:Nat} (hm:m<t.size):∃ l,nxt t (upto m)=(m:Int) :: l:=by
  have h0:∀ k,k≤m→nxtTo t (upto m) k=[]:=by
    intro k
    induction k with
    | zero=>intro _;rfl
    | succ k ih =>
      intro hk
      rw [nxtTo_succ,ih (by omega),if_neg]
      have:(k:Int)∈upto m:=upto_mem.2 ⟨by omega,by omega⟩
      simp [canNext,this]
  have h1:canNext t (upto m) m=true:=by
    unfold canNext
    have e1:¬ (m:Int)∈upto m:=fun h=>by have:=(upto_mem.1 h).2;omega
    rw [decide_eq_true e1,Bool.true_and]
    by_cases e:m=0
    · rw [decide_eq_true e];rfl
    · have:=h.par_pos (c:=m) (by omega) hm
      rw [decide_eq_true (upto_mem.2 this),Bool.or_true]
  have h2:∀ j,m+1+j≤t.size→∃ l,nxtTo t (upto m) (m+1+j)=(m:Int) :: l:=by
    intro j
    induction j with
    | zero =>
      intro _
      rw [Nat.add_zero,nxtTo_succ,if_pos h1,h0 m (Nat.le_refl _)]
      exact ⟨[],rfl⟩
    | succ j ih =>
      intro hj
      obtain ⟨l,e⟩:=ih (by omega)
      rw [show m+1+(j+1)=m+1+j+1 by omega,nxtTo_succ,e]
      split
      · exact ⟨_,rfl⟩
      · exact ⟨_,rfl⟩
  have:=h2 (t.size - (m+1)) (by omega)
  rwa [show m+1+(t.size - (m+1))=t.size by omega] at this
end Go.Proofs.YtlppkilencpmeaaGreat.Tr
namespace Go.Proofs.YtlppkilencpmeaaGreat.Tr
open Go.RowKit Go.Proofs.YtlppkilencpmeaaGreatW.PrintWords
set_option linter.unusedSimpArgs false
set_option linter.unusedVariables false
def idx (x:Int):List Int→Nat→Int
  | [],_=>-1
  | y :: r,i=>if x=y then (i:Int) else idx x r (i+1)
theorem idx_range (x:Int):∀ (l:List Int) (i:Nat),idx x l i=-1∨((i:Int)≤idx x l i∧idx x l i<((i+l.length:Nat):Int)):=by
  intro l
  induction l with
  | nil=>intro i;exact .inl rfl
  | cons y r ih =>
    intro i
    unfold idx
    split
    · right;simp only [List.length_cons];omega
    · rcases ih (i+1) with h|h
      · exact .inl h
      · right;simp only [List.length_cons];omega
theorem idx_mem (x:Int):∀ (l:List Int) (i:Nat),0≤idx x l i↔x∈l:=by
  intro l
  induction l with
  | nil=>intro i;simp [idx]
  | cons y r ih =>
    intro i
    unfold idx
    by_cases h:x=y
    · rw [if_pos h];simp [h]
    · rw [if_neg h,ih];simp [h]
theorem idx_get (x:Int):∀ (l:List Int) (i:Nat),0≤idx x l i→rd l (idx x l i - i)=x:=by
  intro l
  induction l with
  | nil=>intro i h;simp [idx] at h
  | cons y r ih =>
    intro i h
    unfold idx at h ⊢
    by_cases e:x=y
    · rw [if_pos e] at h ⊢
      rw [show (i:Int) - i=0 by omega,rd_cons0,e]
    · rw [if_neg e] at h ⊢
      have h2:=ih (i+1) h
      rcases idx_range x r (i+1) with h3|h3
      · omega
      · have e2:idx x r (i+1) - i=((idx x r (i+1) - ((i+1:Nat):Int)).toNat:Int)+1:=by omega
        have e3:idx x r (i+1) - ((i+1:Nat):Int)=((idx x r (i+1) - ((i+1:Nat):Int)).toNat:Int):=by omega
        rw [e3] at h2
        rw [e2]
        unfold rd at h2 ⊢
        rw [show ((idx x r (i+1) - ((i+1:Nat):Int)).toNat:Int)+1=(((idx x r (i+1) - ((i+1:Nat):Int)).toNat+1:Nat):Int) by omega,Int.toNat_natCast,List.getD_cons_succ]
        rw [Int.toNat_natCast] at h2
        exact h2
theorem pigeon:∀ (n:Nat) (l:List Int),(∀ v:Nat,v<n→(v:Int)∈l)→n≤l.length:=by
  intro n
  induction n with
  | zero=>intro l _;omega
  | succ n ih =>
    intro l h
    have h1:=h n (by omega)
    have h2:=ih (l.erase (n:Int)) (fun v hv=>(List.mem_erase_of_ne (by omega)).2 (h v (by omega)))
    rw [List.length_erase_of_mem h1] at h2
    have:=List.length_pos_of_mem h1
    omega
theorem nxt_pos {d:List Int} {t:F} (h:Tree d t) {beg:List Int} (hb:beg.length<t.size):1≤(nxt t beg).length:=by
  have hex:∃ v:Nat,v<t.size∧¬ (v:Int)∈beg:=by
    apply Classical.byContradiction
    intro hn
    have:=pigeon t.size beg (fun v hv=>Classical.byContradiction fun h'=>hn ⟨v,hv,h'⟩)
    omega
  have hl:∀ m v:Nat,v<m→v<t.size→¬ (v:Int)∈beg→∃ u:Nat,u<t.size∧canNext t beg u=true:=by
    intro m
    induction m with
    | zero=>intro v hv;omega
    | succ m ih =>
      intro v hv hs hm
      by_cases e:v=0
      · exact ⟨v,hs,by simp [canNext,hm,e];subst e;simpa using hm⟩
      · have hp:=h.par_pos (c:=v) (by omega) hs
        by_cases hq:t.par 0 (-1) v∈beg
        · exact ⟨v,hs,by simp [canNext,hm,e,hq]⟩
        · exact ih (t.par 0 (-1) v).toNat (by omega) (by omega) (by rw [Int.toNat_of_nonneg hp.1];exact hq)
  obtain ⟨v,hv,hm⟩:=hex
  obtain ⟨u,hu,hc⟩:=hl (v+1) v (by omega) hv hm
  exact List.length_pos_of_mem (nxt_mem.2 ⟨u,rfl,hu,hc⟩)
end Go.Proofs.YtlppkilencpmeaaGreat.Tr
namespace Go.Proofs.YtlppkilencpmeaaGreat.Tr
open Go.RowKit Go.Proofs.YtlppkilencpmeaaGreatW.PrintWords
set_option linter.unusedSimpArgs false
set_option linter.unusedVariables false
namespace F
def pc:F→F→Nat
  | nil,_=>0
  | cons _ _,nil=>0
  | cons b n,cons b' n'=>max (max (1+pc b b'+pc n n') (pc (b.app n) (cons b' n'))) (pc (cons b n) (b'.app n'))
termination_by x y=>x.size+y.size
decreasing_by all_goals (simp only [size,app_size];omega)
end F
def hp:Nat→Nat × Nat
  | 0=>(1,1)
  | s+1=>((hp s).2,2*(hp s).2+(hp s).1)
def hh (s:Nat):Nat:=(hp s).1
namespace F
end F
namespace F
end F
namespace F
end F
end Go.Proofs.YtlppkilencpmeaaGreat.Tr
namespace Go.Proofs.YtlppkilencpmeaaGreat.Tr
open Go.RowKit Go.Proofs.YtlppkilencpmeaaGreatW.PrintWords Go
set_option linter.unusedSimpArgs false
set_option linter.unusedVariables false
def kt (f g:List Int):ByteArray:=strOfNums (f++[255]++g)
def kl (f g:List Int):Lit:=.string (kt f g).data.toList
end Go.Proofs.YtlppkilencpmeaaGreat.Tr
namespace Go.Proofs.YtlppkilencpmeaaGreat.Tr
open Go.RowKit Go.Proofs.YtlppkilencpmeaaGreatW.PrintWords
set_option linter.unusedSimpArgs false
set_option linter.unusedVariables false
def B (L:List UInt8):ByteArray:=⟨⟨L⟩⟩
theorem B_size (L:List UInt8):(B L).size=L.length:=rfl
theorem B_toList (L:List UInt8):(B L).toList=L:=by rw [ByteArray.toList_eq];rfl
theorem B_of (s:ByteArray):∃ L,s=B L:=⟨s.data.toList,rfl⟩
theorem B_bt (L:List UInt8) (j:Nat) (h:j<L.length):bt (B L) (j:Int)=((L[j]).toNat:Int):=by
  unfold bt
  rw [dif_pos (by rw [Int.toNat_natCast];exact h)]
  rfl
theorem B_extract (L:List UInt8) (i j:Nat):(B L).extract i j=B ((L.take j).drop i):=by
  apply ByteArray.ext
  rw [ByteArray.data_extract]
  apply Array.ext'
  rw [Array.toList_extract]
  simp [B,List.extract_eq_take_drop,List.drop_take]
theorem u8_48 (x:UInt8):((x.toNat:Int)=48)↔x=48:=by
  constructor
  · intro h
    exact UInt8.toNat_inj.mp (by simpa using (by omega:x.toNat=48))
  · rintro rfl;rfl
theorem u8_49 (x:UInt8):((x.toNat:Int)=49)↔x=49:=by
  constructor
  · intro h
    exact UInt8.toNat_inj.mp (by simpa using (by omega:x.toNat=49))
  · rintro rfl;rfl
def tx:F→List UInt8
  | F.nil=>[48]
  | F.cons l r=>49 :: (tx l++tx r)
theorem tx_length (t:F):(tx t).length=2*t.size+1:=by
  induction t with
  | nil=>rfl
  | cons l r ihl ihr=>simp only [tx,List.length_cons,List.length_append,F.size,ihl,ihr];omega
def en:List UInt8→Nat→Option (List UInt8)
  | L,0=>some L
  | [],_+1=>none
  | x :: L,n+1=>if x=48 then en L n else if x=49 then en L (n+2) else none
theorem en_zero (L:List UInt8):en L 0=some L:=by cases L <;> rfl
theorem en_tx (t:F):∀ (M:List UInt8) (n:Nat),en (tx t++M) (n+1)=en M n:=by
  induction t with
  | nil=>intro M n;show en (48 :: M) (n+1)=_;rw [en,if_pos rfl]
  | cons l r ihl ihr =>
    intro M n
    show en (49 :: ((tx l++tx r)++M)) (n+1)=_
    rw [en,if_neg (by decide),if_pos rfl,List.append_assoc,ihl,ihr]
theorem en_inv:∀ (L:List UInt8) (n:Nat) (R:List UInt8),en L n=some R→∃ ts:List F,ts.length=n∧L=(ts.map tx).flatten++R:=by
  intro L
  induction L with
  | nil =>
    intro n R h
    cases n with
    | zero=>rw [en_zero] at h;exact ⟨[],rfl,by simpa using Option.some.inj h⟩
    | succ n=>simp [en] at h
  | cons x L ih =>
    intro n R h
    cases n with
    | zero=>rw [en_zero] at h;exact ⟨[],rfl,by simpa using Option.some.inj h⟩
    | succ n =>
      rw [en] at h
      by_cases h0:x=48
      · rw [if_pos h0] at h
        obtain ⟨ts,h1,h2⟩:=ih n R h
        exact ⟨F.nil :: ts,by simp [h1],by rw [h0,h2];rfl⟩
      · rw [if_neg h0] at h
        by_cases h1:x=49
        · rw [if_pos h1] at h
          obtain ⟨ts,h2,h3⟩:=ih (n+2) R h
          match ts,h2 with
          | a :: b :: ts,h2=>exact ⟨F.cons a b :: ts,by simp at h2 ⊢;omega,by rw [h1,h3];simp [tx]⟩
        · rw [if_neg h1] at h;cases h
theorem en_whole {L:List UInt8} (h:en L 1=some []):∃ t,L=tx t:=by
  obtain ⟨ts,h1,h2⟩:=en_inv L 1 [] h
  match ts,h1 with
  | [t],_=>exact ⟨t,by simpa using h2⟩
theorem en_self (t:F):en (tx t) 1=some []:=by have:=en_tx t [] 0;rwa [List.append_nil,en_zero] at this
theorem en_le:∀ (L:List UInt8) (n:Nat) (R:List UInt8),en L n=some R→R.length≤L.length:=by
  intro L n R h
  obtain ⟨ts,_,h2⟩:=en_inv L n R h
  rw [h2,List.length_append];omega
theorem tx_ne (l r:F):tx (F.cons l r)≠[48]:=by
  intro h
  have:=congrArg List.length h
  rw [tx_length] at this
  simp only [F.size,List.length_singleton] at this
  omega
def ls:F→Int→List Int
  | F.nil,_=>[]
  | F.cons l r,a=>ls l (a+r.size)++[a+(l.size+r.size+1:Nat) - 1]++ls r a
theorem ls_length (t:F):∀ a,(ls t a).length=t.size:=by
  induction t with
  | nil=>intro a;rfl
  | cons l r ihl ihr=>intro a;simp only [ls,List.length_append,List.length_singleton,ihl,ihr,F.size];omega
theorem ls_parts {L X Y:List Int} {f n m:Nat} {x:Int} (hX:X.length=n) (hf:f+(n+m+1)≤L.length) (Q:List Int)
    (hQ:Q=(L.set (f+n) x).take f++X++(L.set (f+n) x).drop (f+n)) :
    f+n+1+m≤Q.length∧Q.take (f+n+1)++Y++Q.drop (f+n+1+m)=L.take f++(X++[x]++Y)++L.drop (f+(n+m+1)):=by
  have e1:(L.set (f+n) x).take f=L.take f:=by rw [List.take_set_of_le (by omega)]
  have e2:(L.set (f+n) x).drop (f+n)=x :: L.drop (f+n+1):=by
    rw [List.drop_set,if_neg (by omega),Nat.sub_self,List.drop_eq_getElem_cons (show f+n<L.length by omega),List.set_cons_zero]
  rw [e1,e2] at hQ
  have hp:(L.take f++X++[x]).length=f+n+1:=by simp [hX];omega
  have hQ2:Q=(L.take f++X++[x])++L.drop (f+n+1):=by rw [hQ];simp
  refine ⟨by rw [hQ2,List.length_append,hp,List.length_drop];omega,?_⟩
  have t1:Q.take (f+n+1)=L.take f++X++[x]:=by rw [hQ2,List.take_append_of_le_length (by omega),List.take_of_length_le (by omega)]
  have t2:Q.drop (f+n+1+m)=L.drop (f+(n+m+1)):=by
    rw [hQ2,List.drop_append,List.drop_eq_nil_of_le (by omega),hp,List.nil_append,List.drop_drop]
    congr 1;omega
  rw [t1,t2]
  simp
end Go.Proofs.YtlppkilencpmeaaGreat.Tr
namespace Go.Proofs.YtlppkilencpmeaaGreat.Gt
set_option linter.unusedSimpArgs false
set_option linter.unusedVariables false
def ch:List Int→Nat→Int→List Int
  | [],_,_=>[]
  | x :: xs,i,l=>if x=l then ((i+1:Nat):Int) :: ch xs (i+1) l else ch xs (i+1) l
def wl (q:List Int):Nat→Int→List Int
  | 0,_=>[]
  | m+1,l=>l :: (ch q 0 l).flatMap (wl q m)
def wd (q:List Int):Nat→Int→List Int
  | 0,_=>[]
  | m+1,l=>((ch q 0 l).length:Int) :: (ch q 0 l).flatMap (wd q m)
def place:Nat→List Int→List Int→List Int
  | _,[],G=>G
  | b,l :: ls,G=>place (b+1) ls (G.set l.toNat (b:Int))
def Grows (q:List Int):Prop:=∀ (j:Nat) (x:Int),q[j]?=some x→0≤x∧x≤(j:Int)
theorem ch_snoc (xs:List Int) (x l:Int):∀ i,ch (xs++[x]) i l=ch xs i l++(if x=l then [((i+xs.length+1:Nat):Int)] else []):=by
  induction xs with
  | nil=>intro i;simp [ch]
  | cons y ys ih =>
    intro i
    simp only [List.cons_append,ch,ih,List.length_cons,show i+1+ys.length+1=i+(ys.length+1)+1 by omega]
    split <;> simp
theorem ch_mem {l c:Int}:∀ {xs:List Int} {i:Nat},c∈ch xs i l→∃ j:Nat,xs[j]?=some l∧c=((i+j+1:Nat):Int):=by
  intro xs
  induction xs with
  | nil=>intro i h;simp [ch] at h
  | cons y ys ih =>
    intro i h
    have hr:c∈ch ys (i+1) l→∃ j:Nat,(y :: ys)[j]?=some l∧c=((i+j+1:Nat):Int):=fun h=>by
      obtain ⟨j,h1,h2⟩:=ih h
      exact ⟨j+1,by simpa using h1,by rw [h2];congr 1;omega⟩
    rw [ch] at h
    by_cases hy:y=l
    · rw [if_pos hy] at h
      rcases List.mem_cons.mp h with h|h
      · exact ⟨0,by simp [hy],h⟩
      · exact hr h
    · rw [if_neg hy] at h;exact hr h
theorem ch_kid {q:List Int} (hq:Grows q) {l c:Int} (h:c∈ch q 0 l):l<c∧c≤(q.length:Int)∧1≤c:=by
  obtain ⟨j,h1,h2⟩:=ch_mem h
  have h3:=hq j l h1
  obtain ⟨h4,-⟩:=List.getElem?_eq_some_iff.mp h1
  omega
theorem ch_len_le (l:Int):∀ (xs:List Int) (i:Nat),(ch xs i l).length≤xs.length:=by
  intro xs
  induction xs with
  | nil=>intro i;simp [ch]
  | cons y ys ih=>intro i;have:=ih (i+1);rw [ch];split <;> simp <;> omega
theorem wd_len (q:List Int):∀ (m:Nat) (l:Int),(wd q m l).length=(wl q m l).length:=by
  intro m
  induction m with
  | zero=>intro l;rfl
  | succ m ih=>intro l;simp [wd,wl,List.length_flatMap,ih]
theorem wl_mem {q:List Int} (hq:Grows q):∀ (m:Nat) (l x:Int),l≤(q.length:Int)→x∈wl q m l→l≤x∧x≤(q.length:Int):=by
  intro m
  induction m with
  | zero=>intro l x _ h;simp [wl] at h
  | succ m ih =>
    intro l x hl h
    rw [wl] at h
    rcases List.mem_cons.mp h with h|h
    · omega
    · obtain ⟨c,hc,h⟩:=List.mem_flatMap.mp h
      have h1:=ch_kid hq hc
      have h2:=ih c x (by omega) h
      omega
theorem ch_count {l:Int}:∀ {xs:List Int} {i j:Nat} {p:Int},xs[j]?=some p→(ch xs i l).count (((i+j+1:Nat):Int))=if p=l then 1 else 0:=by
  intro xs
  induction xs with
  | nil=>intro i j p h;simp at h
  | cons y ys ih =>
    intro i j p h
    have hno:∀ i',i<i'→(ch ys i' l).count (((i+1:Nat)):Int)=0:=fun i' hi=>List.count_eq_zero.mpr (fun h=>by obtain ⟨j,_,h2⟩:=ch_mem h;omega)
    rw [ch]
    cases j with
    | zero =>
      simp only [List.getElem?_cons_zero,Option.some.injEq] at h
      subst h
      by_cases hy:y=l
      · rw [if_pos hy,if_pos hy,List.count_cons,Nat.add_zero,hno (i+1) (by omega),if_pos (beq_self_eq_true _)]
      · rw [if_neg hy,if_neg hy,Nat.add_zero];exact hno (i+1) (by omega)
    | succ j =>
      have h1:=ih (i:=i+1) (j:=j) (p:=p) (by simpa using h)
      rw [show i+1+j+1=i+(j+1)+1 by omega] at h1
      by_cases hy:y=l
      · rw [if_pos hy,List.count_cons_of_ne (by omega),h1]
      · rw [if_neg hy];exact h1
theorem count_flat {f:Int→List Int} {x p:Int}:∀ (cs:List Int),(∀ c∈cs,(f c).count x=(if c=x then 1 else 0)+(f c).count p)→(cs.flatMap f).count x=cs.count x+(cs.flatMap f).count p:=by
  intro cs
  induction cs with
  | nil=>intro _;simp
  | cons c cs ih =>
    intro h
    have h1:=h c (by simp)
    have h2:=ih (fun y hy=>h y (by simp [hy]))
    simp only [List.flatMap_cons,List.count_append,List.count_cons,h1,h2,beq_iff_eq]
    omega
theorem wl_count {q:List Int} (hq:Grows q) {j:Nat} {p:Int} (hp:q[j]?=some p):∀ (m:Nat) (l:Int),0≤l→l≤(q.length:Int)→(q.length:Int) - l<m→(wl q m l).count (((j+1:Nat)):Int)=(if l=((j+1:Nat):Int) then 1 else 0)+(wl q m l).count p:=by
  intro m
  induction m with
  | zero=>intro l h0 h1 h2;omega
  | succ m ih =>
    intro l h0 h1 h2
    have hf:=count_flat (f:=wl q m) (x:=((j+1:Nat):Int)) (p:=p) (ch q 0 l) (fun c hc=>by
      have h3:=ch_kid hq hc
      exact ih c (by omega) (by omega) (by omega))
    have hc:=ch_count (l:=l) (i:=0) hp
    rw [Nat.zero_add] at hc
    rw [wl,List.count_cons,List.count_cons,hf,hc]
    simp only [beq_iff_eq]
    have e1:(if p=l then 1 else 0)=(if l=p then 1 else 0):=by
      by_cases hpl:p=l
      · rw [if_pos hpl,if_pos hpl.symm]
      · rw [if_neg hpl,if_neg (fun e=>hpl e.symm)]
    omega
theorem wl_one {q:List Int} (hq:Grows q) (m:Nat) (hm:q.length<m):∀ x:Nat,x≤q.length→(wl q m 0).count (x:Int)=1:=by
  intro x
  induction x using Nat.strongRecOn with
  | ind x ih =>
    intro hx
    match x with
    | 0 =>
      obtain ⟨m,rfl⟩:∃ m',m=m'+1:=⟨m - 1,by omega⟩
      rw [wl,List.count_cons,List.count_eq_zero.mpr]
      · simp
      · intro h
        obtain ⟨c,hc,h⟩:=List.mem_flatMap.mp h
        have h1:=ch_kid hq hc
        have h2:=wl_mem hq m c _ (by omega) h
        omega
    | j+1 =>
      have hj:j<q.length:=by omega
      have hp:q[j]?=some q[j]:=List.getElem?_eq_getElem hj
      obtain ⟨h3,h4⟩:=hq j _ hp
      rw [wl_count hq hp m 0 (by omega) (by omega) (by omega),if_neg (by omega)]
      have h5:=ih q[j].toNat (by omega) (by omega)
      rw [Int.toNat_of_nonneg h3] at h5
      omega
theorem wl_perm {q:List Int} (hq:Grows q) (m:Nat) (hm:q.length<m):(wl q m 0).Perm ((List.range (q.length+1)).map (fun i:Nat=>(i:Int))):=by
  have hn:((List.range (q.length+1)).map (fun i:Nat=>(i:Int))).Nodup:=List.Pairwise.map _ (fun a b h=>by omega) (List.nodup_range (n:=q.length+1))
  rw [List.perm_iff_count]
  intro x
  by_cases hx:0≤x∧x≤(q.length:Int)
  · obtain ⟨y,rfl⟩:∃ y:Nat,x=(y:Int):=⟨x.toNat,by omega⟩
    rw [wl_one hq m hm y (by omega),hn.count,if_pos]
    exact List.mem_map.mpr ⟨y,List.mem_range.mpr (by omega),rfl⟩
  · rw [List.count_eq_zero.mpr,List.count_eq_zero.mpr]
    · intro h
      obtain ⟨y,hy,rfl⟩:=List.mem_map.mp h
      have:=List.mem_range.mp hy
      omega
    · intro h
      exact hx (wl_mem hq m 0 x (by omega) h)
theorem wl_len {q:List Int} (hq:Grows q) (m:Nat) (hm:q.length<m):(wl q m 0).length=q.length+1:=by
  rw [(wl_perm hq m hm).length_eq];simp
theorem place_append:∀ (ls ms:List Int) (b:Nat) (G:List Int),place b (ls++ms) G=place (b+ls.length) ms (place b ls G):=by
  intro ls
  induction ls with
  | nil=>intro ms b G;simp [place]
  | cons l ls ih=>intro ms b G;rw [List.cons_append,place,ih,place,List.length_cons];congr 1;omega
theorem place_len:∀ (ls:List Int) (b:Nat) (G:List Int),(place b ls G).length=G.length:=by
  intro ls
  induction ls with
  | nil=>intro b G;rfl
  | cons l ls ih=>intro b G;rw [place,ih,List.length_set]
theorem flat_congr {α:Type} {f g:Int→List α}:∀ (cs:List Int),(∀ c∈cs,f c=g c)→cs.flatMap f=cs.flatMap g:=by
  intro cs
  induction cs with
  | nil=>intro _;rfl
  | cons c cs ih=>intro h;rw [List.flatMap_cons,List.flatMap_cons,h c (by simp),ih (fun y hy=>h y (by simp [hy]))]
theorem fuel {q:List Int} (hq:Grows q):∀ (m m':Nat) (l:Int),l≤(q.length:Int)→(q.length:Int) - l<m→(q.length:Int) - l<m'→wl q m l=wl q m' l∧wd q m l=wd q m' l:=by
  intro m
  induction m with
  | zero=>intro m' l h1 h2 h3;omega
  | succ m ih =>
    intro m' l h1 h2 h3
    obtain ⟨m',rfl⟩:∃ m'',m'=m''+1:=⟨m' - 1,by omega⟩
    have h4:∀ c∈ch q 0 l,wl q m c=wl q m' c∧wd q m c=wd q m' c:=fun c hc=>by
      have h5:=ch_kid hq hc
      exact ih m' c (by omega) (by omega) (by omega)
    exact ⟨congrArg (l :: ·) (flat_congr _ (fun c hc=>(h4 c hc).1)),congrArg (((ch q 0 l).length:Int) :: ·) (flat_congr _ (fun c hc=>(h4 c hc).2))⟩
def ok:List Int→Nat→Bool
  | [],_=>true
  | x :: xs,i=>decide (0≤x∧x≤(i:Int)) && ok xs (i+1)
theorem ok_at:∀ {xs:List Int} {i:Nat},ok xs i=true→∀ (j:Nat) (x:Int),xs[j]?=some x→0≤x∧x≤((i+j:Nat):Int):=by
  intro xs
  induction xs with
  | nil=>intro i _ j x h;simp at h
  | cons y ys ih =>
    intro i h j x hx
    rw [ok,Bool.and_eq_true] at h
    cases j with
    | zero=>simp at hx;subst hx;exact of_decide_eq_true h.1
    | succ j=>have:=ih h.2 j x (by simpa using hx);omega
theorem ok_grows {q:List Int} (h:ok q 0=true):Grows q:=fun j x hx=>by have:=ok_at h j x hx;omega
theorem flat_le {f:Int→List Int} {l:Int} {n:Nat}:∀ (xs:List Int) (i:Nat),i+xs.length=n→(∀ c∈ch xs i l,l<c∧(f c).length≤2 ^ (n - c.toNat))→((ch xs i l).flatMap f).length+1≤2 ^ (n - max i l.toNat):=by
  intro xs
  induction xs with
  | nil=>intro i _ _;simp [ch];exact Nat.one_le_two_pow
  | cons x xs ih =>
    intro i hi h
    rw [List.length_cons] at hi
    rw [ch] at h ⊢
    by_cases hx:x=l
    · rw [if_pos hx] at h ⊢
      have h1:=h _ (List.mem_cons_self ..)
      have h2:=ih (i+1) (by omega) (fun c hc=>h c (List.mem_cons_of_mem _ hc))
      rw [List.flatMap_cons,List.length_append]
      have e1:max i l.toNat=i:=by omega
      have e2:max (i+1) l.toNat=i+1:=by omega
      rw [e2] at h2
      rw [e1,show n - i=n - (i+1)+1 by omega,Nat.pow_succ]
      have h3:=h1.2
      rw [Int.toNat_natCast] at h3
      omega
    · rw [if_neg hx] at h ⊢
      have h2:=ih (i+1) (by omega) h
      exact Nat.le_trans h2 (Nat.pow_le_pow_right (by omega) (by omega))
theorem wl_le {q:List Int} (hq:Grows q):∀ (m:Nat) (l:Int),0≤l→(wl q m l).length≤2 ^ (q.length - l.toNat):=by
  intro m
  induction m with
  | zero=>intro l _;simp [wl]
  | succ m ih =>
    intro l h0
    have h:=flat_le (f:=wl q m) (l:=l) (n:=q.length) q 0 (by omega) (fun c hc=>by
      have h3:=ch_kid hq hc
      exact ⟨h3.1,ih c (by omega)⟩)
    rw [wl,List.length_cons]
    exact Nat.le_trans h (Nat.pow_le_pow_right (by omega) (by omega))
def Kids (K:List (List Int)) (q:List Int):Prop:=K.length=q.length+1∧∀ j:Nat,K.getD j []=ch q 0 (j:Int)
theorem kids_snoc {K:List (List Int)} {p:List Int} {x:Int} (h:Kids K p) (h0:0≤x) (h1:x≤(p.length:Int)):Kids (K.set x.toNat (K.getD x.toNat []++[((p.length+1:Nat):Int)])++[[]]) (p++[x]):=by
  refine ⟨by simp [h.1],fun j=>?_⟩
  rw [ch_snoc,Nat.zero_add]
  have hj:=h.2 j
  have hx:=h.2 x.toNat
  rw [List.getD_eq_getElem?_getD] at hj ⊢
  by_cases hl:j<K.length
  · rw [List.getElem?_append_left (by rw [List.length_set];exact hl),List.getElem?_set]
    by_cases he:x.toNat=j
    · rw [if_pos he,if_pos (by omega),Option.getD_some,if_pos (by omega),hx,show (((x.toNat:Nat)):Int)=(j:Int) by omega]
    · rw [if_neg he,hj,if_neg (by omega),List.append_nil]
  · have hn:ch p 0 (j:Int)=[]:=by rw [← hj,List.getElem?_eq_none (by omega)];rfl
    rw [List.getElem?_append_right (by rw [List.length_set];omega),List.length_set,hn,if_neg (by have:=h.1;omega)]
    cases hi:j - K.length with
    | zero=>simp
    | succ i=>simp
end Go.Proofs.YtlppkilencpmeaaGreat.Gt
namespace Go.Proofs.YtlppkilencpmeaaGreat.Tr
open Go.RowKit Go.Proofs.YtlppkilencpmeaaGreatW.PrintWords
set_option linter.unusedSimpArgs false
set_option linter.unusedVariables false
end Go.Proofs.YtlppkilencpmeaaGreat.Tr
namespace Go.Proofs.YtlppkilencpmeaaGreat.Tr
open Go.RowKit Go.Proofs.YtlppkilencpmeaaGreatW.PrintWords
set_option linter.unusedSimpArgs false
set_option linter.unusedVariables false
def isOrd (n:Nat) (l:List Int):Prop:=l.length=n∧l.Nodup∧∀ x∈l,0≤x∧x<n
instance (n:Nat) (l:List Int):Decidable (isOrd n l):=by unfold isOrd;infer_instance
def msort (l:List Int):List Int:=l.mergeSort fun x y=>decide (x≤y)
theorem msort_len (l:List Int):(msort l).length=l.length:=List.length_mergeSort _
theorem msort_perm (l:List Int):(msort l).Perm l:=List.mergeSort_perm _ _
theorem msort_sorted (l:List Int):(msort l).Pairwise (fun x y=>x≤y):=by
  have:=List.pairwise_mergeSort (le:=fun x y:Int=>decide (x≤y)) (by intro a b c;simp;omega) (by intro a b;simp;omega) l
  exact this.imp (by intro a b h;simpa using h)
theorem strict_full:∀ (s:List Int) (a:Nat),s.Pairwise (fun x y=>x<y)→(∀ x∈s,(a:Int)≤x∧x<((a+s.length:Nat):Int))→s=(List.range' a s.length).map (fun v:Nat=>(v:Int)):=by
  intro s
  induction s with
  | nil=>intro a _ _;rfl
  | cons x s ih =>
    intro a hp hr
    rw [List.pairwise_cons] at hp
    have h1:=ih (a+1) hp.2 (by
      intro y hy
      have q:=hp.1 y hy
      have q1:=hr x (by simp)
      have q2:=hr y (by simp [hy])
      simp only [List.length_cons] at q2
      omega)
    have hx:x=(a:Int):=by
      have q1:=hr x (by simp)
      simp only [List.length_cons] at q1
      cases s with
      | nil=>simp only [List.length_nil] at q1;omega
      | cons y s' =>
        have:((a+1:Nat):Int)∈y :: s':=by rw [h1];simp [List.range'_succ]
        have:=hp.1 _ this
        omega
    simp only [List.length_cons,List.range'_succ,List.map_cons]
    rw [← h1,hx]
theorem upto_range (n:Nat):upto n=(List.range' 0 n).map (fun v:Nat=>(v:Int)):=by
  unfold upto each;rw [List.range_eq_range']
theorem upto_nodup (n:Nat):(upto n).Nodup:=by
  rw [upto_range]
  refine List.Pairwise.map _ ?_ (List.nodup_range' (s:=0) (n:=n))
  intro a b h;omega
theorem isOrd_sort {n:Nat} {l:List Int}:isOrd n l↔l.length=n∧msort l=upto n:=by
  constructor
  · rintro ⟨h1,h2,h3⟩
    refine ⟨h1,?_⟩
    have hn:(msort l).Nodup:=(msort_perm l).nodup_iff.mpr h2
    have hp:(msort l).Pairwise (fun x y=>x<y):=by
      have:=List.Pairwise.and (msort_sorted l) hn
      exact this.imp (by intro a b h;omega)
    have:=strict_full (msort l) 0 hp (by
      intro x hx
      have:=h3 x ((msort_perm l).mem_iff.mp hx)
      rw [msort_len,h1];omega)
    rw [this,msort_len,h1,upto_range]
  · rintro ⟨h1,h2⟩
    refine ⟨h1,?_,?_⟩
    · rw [← (msort_perm l).nodup_iff,h2];exact upto_nodup n
    · intro x hx
      rw [← (msort_perm l).mem_iff,h2,upto_mem] at hx
      exact hx
theorem isOrd_mem {n:Nat} {l:List Int} (h:isOrd n l) {v:Int}:v∈l↔0≤v∧v<n:=by
  rw [← (msort_perm l).mem_iff,(isOrd_sort.mp h).2,upto_mem]
theorem upto_rd {n i:Nat} (h:i<n):rd (upto n) (i:Int)=i:=each_rd h
theorem idx_left (x:Int):∀ (a b:List Int) (i:Nat),x∈a→idx x (a++b) i=idx x a i:=by
  intro a
  induction a with
  | nil=>intro b i h;simp at h
  | cons y a ih =>
    intro b i h
    simp only [List.cons_append,idx]
    split
    · rfl
    · rename_i hne
      exact ih b (i+1) (by simpa [hne] using h)
theorem idx_right (x:Int):∀ (a b:List Int) (i:Nat),x∉a→idx x (a++b) i=idx x b (i+a.length):=by
  intro a
  induction a with
  | nil=>intro b i h;simp
  | cons y a ih =>
    intro b i h
    simp only [List.mem_cons,not_or] at h
    simp only [List.cons_append,idx,if_neg h.1,List.length_cons]
    rw [ih b (i+1) h.2]
    congr 1;omega
theorem idx_at {x:Int} {a b:List Int} (h:x∉a):idx x (a++x :: b) 0=a.length:=by
  rw [idx_right x a (x :: b) 0 h];simp [idx]
def grows (t:F):List Int→List Int→Bool
  | _,[]=>true
  | pre,x :: r=>(decide (t.par 0 (-1) x.toNat<0) || decide (t.par 0 (-1) x.toNat∈pre)) && grows t (pre++[x]) r
theorem grows_iff (t:F):∀ (r pre:List Int),grows t pre r=true↔∀ a x b,r=a++x :: b→t.par 0 (-1) x.toNat<0∨t.par 0 (-1) x.toNat∈pre++a:=by
  intro r
  induction r with
  | nil=>intro pre;simp [grows]
  | cons y r ih =>
    intro pre
    simp only [grows,Bool.and_eq_true,Bool.or_eq_true,decide_eq_true_eq,ih]
    constructor
    · rintro ⟨h1,h2⟩ a x b hab
      cases a with
      | nil =>
        simp only [List.nil_append,List.cons.injEq] at hab
        obtain ⟨rfl,rfl⟩:=hab
        simpa using h1
      | cons z a =>
        simp only [List.cons_append,List.cons.injEq] at hab
        obtain ⟨rfl,rfl⟩:=hab
        have:=h2 a x b rfl
        simpa [List.append_assoc] using this
    · intro h
      refine ⟨by simpa using h [] y r rfl,?_⟩
      intro a x b hab
      have:=h (y :: a) x b (by rw [hab];rfl)
      simpa [List.append_assoc] using this
theorem grows_pos {d:List Int} {t:F} (h:Tree d t) {l:List Int} (ho:isOrd t.size l):grows t [] l=true↔∀ v:Nat,1≤v→v<t.size→idx (t.par 0 (-1) v) l 0≤idx (v:Int) l 0:=by
  rw [grows_iff]
  constructor
  · intro hg v h1 h2
    have hm:(v:Int)∈l:=(isOrd_mem ho).mpr (by omega)
    obtain ⟨a,b,rfl,hna⟩:=List.eq_append_cons_of_mem hm
    rw [idx_at hna]
    have hp:=h.par_pos h1 h2
    rcases hg a v b rfl with q|q
    · simp only [Int.toNat_natCast] at q;omega
    · simp only [Int.toNat_natCast,List.nil_append] at q
      rw [idx_left _ _ _ _ q]
      have:=idx_range (t.par 0 (-1) v) a 0
      omega
  · intro hp a x b hab
    subst hab
    have hx:=(isOrd_mem ho (v:=x)).mp (by simp)
    have hnd:x∉a:=by
      have:=ho.2.1
      rw [List.nodup_append] at this
      intro hxa
      exact this.2.2 x hxa x (by simp) rfl
    obtain ⟨v,rfl⟩:=Int.eq_ofNat_of_zero_le hx.1
    have hv:v<t.size:=by omega
    simp only [Int.toNat_natCast,List.nil_append]
    by_cases h0:v=0
    · subst h0;left;have:=h.par_zero;omega
    · have hq:=hp v (by omega) hv
      have hpar:=h.par_pos (by omega:1≤v) hv
      by_cases hin:t.par 0 (-1) v∈a
      · exact .inr hin
      · exfalso
        have hmem:t.par 0 (-1) v∈a++(v:Int) :: b:=(isOrd_mem ho).mpr (by omega)
        have hge:=(idx_mem (t.par 0 (-1) v) (a++(v:Int) :: b) 0).mpr hmem
        rw [idx_right _ _ _ _ hin] at hq hge
        rw [idx_at hnd] at hq
        simp only [idx] at hq hge
        rw [if_neg (by omega)] at hq hge
        have:=idx_range (t.par 0 (-1) v) b (0+a.length+1)
        omega
def labels (l:List Int) (n:Nat):List Int:=each n (fun v=>idx (v:Int) l 0)
def codeO (d l:List Int):Int:=if isT d=true then (if isOrd d.length l then 0 else 2) else 1
def growing (t:F) (l:List Int):Bool:=grows t [] l
def codeG (d l:List Int) (t:F):Int:=if isOrd d.length l then (if growing t l=true then 0 else 5) else 2
theorem codeG_zero {d l:List Int} {t:F}:codeG d l t=0↔isOrd d.length l∧growing t l=true:=by
  unfold codeG
  by_cases h:isOrd d.length l
  · rw [if_pos h]
    cases growing t l with
    | true=>simp [h]
    | false=>simp
  · rw [if_neg h];simp [h]
theorem isOrd_rd {n:Nat} {l:List Int} (h:isOrd n l) {i:Nat} (hi:i<n):0≤rd l (i:Int)∧rd l (i:Int)<n :=
  h.2.2 _ (rd_mem (by omega) (by have:=h.1;omega))
end Go.Proofs.YtlppkilencpmeaaGreat.Tr
namespace Go.Proofs.YtlppkilencpmeaaGreat.Lg
open Go.RowKit Go.Proofs.YtlppkilencpmeaaGreatW.PrintWords Go.Proofs.YtlppkilencpmeaaGreat.Tr Go.Proofs.YtlppkilencpmeaaGreat.Gt
set_option linter.unusedSimpArgs false
set_option linter.unusedVariables false
theorem sorted_ext:∀ (a b:List Int),a.Pairwise (fun x y=>x<y)→b.Pairwise (fun x y=>x<y)→(∀ x,x∈a↔x∈b)→a=b:=by
  intro a
  induction a with
  | nil =>
    intro b _ _ h
    cases b with
    | nil=>rfl
    | cons y b=>exact absurd ((h y).mpr (by simp)) (by simp)
  | cons x a ih =>
    intro b ha hb h
    cases b with
    | nil=>exact absurd ((h x).mp (by simp)) (by simp)
    | cons y b =>
      rw [List.pairwise_cons] at ha hb
      have hxy:x=y:=by
        rcases List.mem_cons.mp ((h x).mp (by simp)) with h1|h1
        · exact h1
        · rcases List.mem_cons.mp ((h y).mpr (by simp)) with h2|h2
          · exact h2.symm
          · have h3:=hb.1 x h1;have h4:=ha.1 y h2;omega
      subst hxy
      rw [ih b ha.2 hb.2 (fun z=>?_)]
      constructor
      · intro hz
        rcases List.mem_cons.mp ((h z).mp (List.mem_cons_of_mem _ hz)) with h1|h1
        · subst h1;have:=ha.1 _ hz;omega
        · exact h1
      · intro hz
        rcases List.mem_cons.mp ((h z).mpr (List.mem_cons_of_mem _ hz)) with h1|h1
        · subst h1;have:=hb.1 _ hz;omega
        · exact h1
theorem ch_sorted (l:Int):∀ (xs:List Int) (i:Nat),(ch xs i l).Pairwise (fun x y=>x<y):=by
  intro xs
  induction xs with
  | nil=>intro i;simp [ch]
  | cons x xs ih =>
    intro i
    rw [ch]
    split
    · rw [List.pairwise_cons]
      refine ⟨fun y hy=>?_,ih _⟩
      obtain ⟨j,_,h⟩:=ch_mem hy
      omega
    · exact ih _
theorem ch_of {q:List Int} {l:Int} {j:Nat} (h:q[j]?=some l):((j+1:Nat):Int)∈ch q 0 l:=by
  have h1:=ch_count (l:=l) (i:=0) h
  rw [if_pos rfl,Nat.zero_add] at h1
  exact List.count_pos_iff.mp (by omega)
def asc:List Int→Bool
  | x :: y :: r=>decide (¬ x>y) && asc (y :: r)
  | _=>true
theorem asc_sorted:∀ (l:List Int),l.Nodup→(asc l=true↔l.Pairwise (fun x y=>x<y)):=by
  intro l
  induction l with
  | nil=>intro _;simp [asc]
  | cons x l ih =>
    intro hn
    rw [List.nodup_cons] at hn
    cases l with
    | nil=>simp [asc]
    | cons y r =>
      have h:=ih hn.2
      rw [asc,Bool.and_eq_true,decide_eq_true_eq,List.pairwise_cons,h]
      have hxy:x≠y:=fun e=>hn.1 (by rw [e];simp)
      constructor
      · rintro ⟨h1,h2⟩
        refine ⟨fun z hz=>?_,h2⟩
        rcases List.mem_cons.mp hz with h3|h3
        · omega
        · have:=(List.pairwise_cons.mp h2).1 z h3;omega
      · rintro ⟨h1,h2⟩
        exact ⟨by have:=h1 y (by simp);omega,h2⟩
theorem roll {q:List Int} (hq:Grows q) {l:Int} (h0:0≤l) (h1:l≤(q.length:Int)):wl q (q.length+1) l=l :: (ch q 0 l).flatMap (wl q (q.length+1))∧wd q (q.length+1) l=((ch q 0 l).length:Int) :: (ch q 0 l).flatMap (wd q (q.length+1)):=by
  have hf:∀ c∈ch q 0 l,wl q q.length c=wl q (q.length+1) c∧wd q q.length c=wd q (q.length+1) c:=fun c hc=>by
    have h3:=ch_kid hq hc
    exact fuel hq q.length (q.length+1) c (by omega) (by omega) (by omega)
  exact ⟨congrArg (l :: ·) (flat_congr _ (fun c hc=>(hf c hc).1)),congrArg (((ch q 0 l).length:Int) :: ·) (flat_congr _ (fun c hc=>(hf c hc).2))⟩
theorem wd_enc {q:List Int} (hq:Grows q):∀ (m:Nat) (cs:List Int),(∀ c∈cs,c≤(q.length:Int)∧(q.length:Int) - c<m)→∃ f:F,f.len=cs.length∧cs.flatMap (wd q m)=f.enc:=by
  intro m
  induction m with
  | zero =>
    intro cs h
    cases cs with
    | nil=>exact ⟨.nil,rfl,rfl⟩
    | cons c cs=>have:=h c (by simp);omega
  | succ m ih =>
    intro cs
    induction cs with
    | nil=>intro _;exact ⟨.nil,rfl,rfl⟩
    | cons c cs ihc =>
      intro h
      obtain ⟨g,hg1,hg2⟩:=ihc (fun y hy=>h y (List.mem_cons_of_mem _ hy))
      have hc:=h c (by simp)
      obtain ⟨f,hf1,hf2⟩:=ih (ch q 0 c) (fun y hy=>by have h3:=ch_kid hq hy;omega)
      refine ⟨.cons f g,by simp [F.len,hg1];omega,?_⟩
      rw [List.flatMap_cons,hg2,wd,hf2,F.enc,hf1]
      rfl
theorem place_rd:∀ (L:List Int) (b:Nat) (G:List Int) (i:Nat),L.Nodup→(∀ x∈L,0≤x)→i<G.length→rd (place b L G) (i:Int)=if (i:Int)∈L then idx (i:Int) L b else rd G (i:Int):=by
  intro L
  induction L with
  | nil=>intro b G i _ _ _;simp [place]
  | cons x L ih =>
    intro b G i hn h0 hi
    rw [List.nodup_cons] at hn
    have hx:=h0 x (by simp)
    rw [place,ih (b+1) _ i hn.2 (fun y hy=>h0 y (List.mem_cons_of_mem _ hy)) (by rw [List.length_set];exact hi),rd_set hi hx,idx]
    by_cases hm:(i:Int)∈L
    · have hne:(i:Int)≠x:=fun e=>hn.1 (by rw [← e];exact hm)
      rw [if_pos hm,if_pos (List.mem_cons_of_mem _ hm),if_neg hne]
    · rw [if_neg hm]
      by_cases he:(i:Int)=x
      · rw [if_pos he,if_pos he.symm,if_pos (show (i:Int)∈x :: L by rw [he];simp)]
      · rw [if_neg (fun e=>he e.symm),if_neg (show ¬ (i:Int)∈x :: L by simp [hm,he])]
theorem idx_rd {n:Nat} {l:List Int} (ho:isOrd n l) {i:Nat} (hi:i<n):idx (rd l (i:Int)) l 0=i:=by
  have hl:=ho.1
  have hm:rd l (i:Int)∈l:=rd_mem (by omega) (by omega)
  have h1:=(idx_mem (rd l (i:Int)) l 0).mpr hm
  have h2:=idx_get (rd l (i:Int)) l 0 h1
  have h3:=idx_range (rd l (i:Int)) l 0
  obtain ⟨j,hj⟩:=Int.eq_ofNat_of_zero_le h1
  rw [hj] at h2 h3 ⊢
  have hjn:j<l.length:=by omega
  rw [show ((j:Int) - ((0:Nat):Int))=(j:Int) by omega,rd_getElem hjn,rd_getElem (by omega:i<l.length)] at h2
  have h4:=(List.getElem_inj ho.2.1).mp h2
  omega
theorem rd_idx {n:Nat} {l:List Int} (ho:isOrd n l) {v:Int} (h0:0≤v) (h1:v<n):0≤idx v l 0∧idx v l 0<n∧rd l (idx v l 0)=v:=by
  have hm:=(isOrd_mem ho).mpr ⟨h0,h1⟩
  have h2:=(idx_mem v l 0).mpr hm
  have h3:=idx_get v l 0 h2
  have h4:=idx_range v l 0
  have hl:=ho.1
  rw [show (idx v l 0 - ((0:Nat):Int))=idx v l 0 by omega] at h3
  exact ⟨h2,by omega,h3⟩
theorem idx_inj {n:Nat} {l:List Int} (ho:isOrd n l) {u v:Int} (h0:0≤u) (h1:u<n) (h2:0≤v) (h3:v<n) (h:idx u l 0=idx v l 0):u=v:=by
  have h4:=(rd_idx ho h0 h1).2.2
  have h5:=(rd_idx ho h2 h3).2.2
  rw [h] at h4
  exact h4.symm.trans h5
theorem roots_sorted:∀ (g:F) (p:Nat),(g.roots p).Pairwise (fun x y=>x<y):=by
  intro g
  induction g with
  | nil=>intro p;simp [F.roots]
  | cons b n _ ih =>
    intro p
    rw [F.roots,List.pairwise_cons]
    refine ⟨fun y hy=>?_,ih _⟩
    have:=F.roots_range n _ y hy
    omega
theorem flat_len (q:List Int) (m:Nat) (cs:List Int):(cs.flatMap (wl q m)).length=(cs.flatMap (wd q m)).length:=by
  induction cs with
  | nil=>rfl
  | cons c cs ih=>rw [List.flatMap_cons,List.flatMap_cons,List.length_append,List.length_append,ih,wd_len]
section
variable {q:List Int} {f:Int→Int}
theorem flat_all (hq:Grows q):∀ (g:F) (p:Nat),(∀ v:Nat,v<g.size→0≤f ((p+v:Nat):Int)∧f ((p+v:Nat):Int)≤(q.length:Int))→(∀ v:Nat,v<g.size→ch q 0 (f ((p+v:Nat):Int))=((g.sub v).roots (p+v+1)).map f) →
    ((g.roots p).map f).flatMap (wd q (q.length+1))=g.enc∧((g.roots p).map f).flatMap (wl q (q.length+1))=(List.range' p g.size).map (fun v:Nat=>f (v:Int)):=by
  intro g
  induction g with
  | nil=>intro p _ _;exact ⟨rfl,rfl⟩
  | cons b n ihb ihn =>
    intro p hr hP
    simp only [F.size] at hr hP
    have h0:=hP 0 (by omega)
    have hr0:=hr 0 (by omega)
    rw [F.sub_zero,Nat.add_zero] at h0
    rw [Nat.add_zero] at hr0
    obtain ⟨hw,hd⟩:=roll hq hr0.1 hr0.2
    obtain ⟨hb1,hb2⟩:=ihb (p+1) (fun v hv=>by have:=hr (1+v) (by omega);rwa [show p+(1+v)=p+1+v by omega] at this) (fun v hv=>by
      have h:=hP (1+v) (by omega)
      rwa [F.sub_left (by omega) (by omega),show 1+v - 1=v by omega,show p+(1+v)=p+1+v by omega] at h)
    obtain ⟨hn1,hn2⟩:=ihn (p+1+b.size) (fun v hv=>by have:=hr (1+b.size+v) (by omega);rwa [show p+(1+b.size+v)=p+1+b.size+v by omega] at this) (fun v hv=>by
      have h:=hP (1+b.size+v) (by omega)
      rwa [F.sub_right (by omega),show 1+b.size+v - 1 - b.size=v by omega,show p+(1+b.size+v)=p+1+b.size+v by omega] at h)
    rw [F.roots,List.map_cons,List.flatMap_cons,List.flatMap_cons,hd,hw,h0,hb1,hb2,hn1,hn2]
    constructor
    · rw [List.length_map,F.roots_len,F.enc];rfl
    · rw [F.size,show 1+b.size+n.size=(b.size+n.size)+1 by omega,List.range'_succ,List.map_cons,← List.range'_append_1,List.map_append]
      rfl
theorem flat_back (hq:Grows q):∀ (g:F) (p:Nat) (cs:List Int),cs.length=g.len→(∀ c∈cs,0≤c∧c≤(q.length:Int))→cs.flatMap (wd q (q.length+1))=g.enc→cs.flatMap (wl q (q.length+1))=(List.range' p g.size).map (fun v:Nat=>f (v:Int)) →
    cs=(g.roots p).map f∧∀ v:Nat,v<g.size→ch q 0 (f ((p+v:Nat):Int))=((g.sub v).roots (p+v+1)).map f:=by
  intro g
  induction g with
  | nil =>
    intro p cs hl _ _ _
    obtain rfl:cs=[]:=List.length_eq_zero_iff.mp (by simpa [F.len] using hl)
    exact ⟨rfl,fun v hv=>by simp [F.size] at hv⟩
  | cons b n ihb ihn =>
    intro p cs hl hr hD hW
    cases cs with
    | nil=>simp [F.len] at hl;omega
    | cons c cs =>
      have hc:=hr c (by simp)
      obtain ⟨hw,hd⟩:=roll hq hc.1 hc.2
      rw [List.flatMap_cons,hd,F.enc,List.cons_append,List.cons.injEq] at hD
      obtain ⟨hD1,hD2⟩:=hD
      obtain ⟨g1,hg1,hg2⟩:=wd_enc hq (q.length+1) (ch q 0 c) (fun y hy=>by have h3:=ch_kid hq hy;omega)
      rw [hg2] at hD2
      obtain ⟨rfl,hD3⟩:=F.enc_inj g1 b _ _ (by omega) hD2
      rw [List.flatMap_cons,hw,F.size,show 1+g1.size+n.size=(g1.size+n.size)+1 by omega,List.range'_succ,List.map_cons,List.cons_append,List.cons.injEq,List.range'_append_1.symm,List.map_append] at hW
      obtain ⟨hW1,hW2⟩:=hW
      have hlen:((ch q 0 c).flatMap (wl q (q.length+1))).length=((List.range' (p+1) g1.size).map (fun v:Nat=>f (v:Int))).length:=by
        rw [flat_len,hg2,F.enc_len,List.length_map,List.length_range']
      obtain ⟨hW3,hW4⟩:=List.append_inj hW2 hlen
      obtain ⟨hb1,hb2⟩:=ihb (p+1) (ch q 0 c) hg1.symm (fun y hy=>by have h3:=ch_kid hq hy;omega) hg2 hW3
      obtain ⟨hn1,hn2⟩:=ihn (p+1+g1.size) cs (by simp [F.len] at hl;omega) (fun y hy=>hr y (List.mem_cons_of_mem _ hy)) hD3 hW4
      refine ⟨by rw [F.roots,List.map_cons,← hn1,← hW1],fun v hv=>?_⟩
      simp only [F.size] at hv
      by_cases e0:v=0
      · subst e0
        rw [F.sub_zero,Nat.add_zero,← hW1];exact hb1
      · by_cases e1:v<1+g1.size
        · have h:=hb2 (v - 1) (by omega)
          rw [F.sub_left (by omega) e1]
          rwa [show p+1+(v - 1)=p+v by omega] at h
        · have h:=hn2 (v - 1 - g1.size) (by omega)
          rw [F.sub_right (by omega)]
          rwa [show p+1+g1.size+(v - 1 - g1.size)=p+v by omega] at h
end
structure Gro (d:List Int) (t:F) (l q:List Int):Prop where
  h:Tree d t
  ho:isOrd t.size l
  hg:growing t l=true
  hl:q.length+1=t.size
  hq:∀ j:Nat,j<q.length→q[j]?=some (idx (t.par 0 (-1) (rd l ((j+1:Nat):Int)).toNat) l 0)
def kl (t:F) (l:List Int) (v:Nat):List Int:=((t.sub v).roots (v+1)).map (fun c=>idx c l 0)
def whole (t:F) (l:List Int):Bool:=(List.range t.size).all fun v=>asc (kl t l v)
namespace Gro
variable {d l q:List Int} {t:F}
theorem below (G:Gro d t l q) {v:Nat} (h1:1≤v) (hv:v<t.size):0≤t.par 0 (-1) v∧t.par 0 (-1) v<v∧0≤idx (t.par 0 (-1) v) l 0∧idx (t.par 0 (-1) v) l 0<idx (v:Int) l 0:=by
  have h2:=G.h.par_pos h1 hv
  have h3:=(grows_pos G.h G.ho).mp G.hg v h1 hv
  have h4:=rd_idx G.ho h2.1 (by omega)
  refine ⟨h2.1,h2.2,h4.1,?_⟩
  have h5:idx (t.par 0 (-1) v) l 0≠idx (v:Int) l 0:=fun e=>by
    have:=idx_inj G.ho h2.1 (by omega) (by omega) (by omega) e
    omega
  omega
theorem zero (G:Gro d t l q):rd l ((0:Nat):Int)=0∧idx 0 l 0=0:=by
  have hp:=G.h.pos
  have h1:=isOrd_rd G.ho (i:=0) (by omega)
  have h2:=idx_rd G.ho (i:=0) (by omega)
  obtain ⟨v,hv⟩:=Int.eq_ofNat_of_zero_le h1.1
  rw [hv] at h1 h2 ⊢
  by_cases e:v=0
  · subst e;exact ⟨rfl,h2⟩
  · have h3:=G.below (v:=v) (by omega) (by omega)
    omega
theorem at_ (G:Gro d t l q) {j:Nat} (hj:j<q.length):∃ v:Nat,1≤v∧v<t.size∧rd l ((j+1:Nat):Int)=(v:Int)∧idx (v:Int) l 0=((j+1:Nat):Int)∧q[j]?=some (idx (t.par 0 (-1) v) l 0):=by
  have hl:=G.hl
  have h1:=isOrd_rd G.ho (i:=j+1) (by omega)
  have h2:=idx_rd G.ho (i:=j+1) (by omega)
  have h3:=G.hq j hj
  obtain ⟨v,hv⟩:=Int.eq_ofNat_of_zero_le h1.1
  rw [hv] at h1 h2 h3 ⊢
  rw [Int.toNat_natCast] at h3
  have h4:v≠0:=fun e=>by
    subst e
    have h5:=G.zero.2
    rw [show ((0:Nat):Int)=0 from rfl] at h2
    omega
  exact ⟨v,by omega,by omega,rfl,h2,h3⟩
theorem grows (G:Gro d t l q):Grows q:=by
  intro j x hx
  obtain ⟨hj,-⟩:=List.getElem?_eq_some_iff.mp hx
  obtain ⟨v,h1,h2,h3,h4,h5⟩:=G.at_ hj
  rw [h5] at hx
  injection hx with hx
  have h6:=G.below h1 h2
  omega
theorem ch_iff (G:Gro d t l q) {v:Nat} (hv:v<t.size) (x:Int):x∈ch q 0 (idx (v:Int) l 0)↔x∈kl t l v:=by
  have hl:=G.hl
  unfold kl
  rw [List.mem_map]
  constructor
  · intro hx
    obtain ⟨j,hj,rfl⟩:=ch_mem hx
    obtain ⟨hj2,-⟩:=List.getElem?_eq_some_iff.mp hj
    obtain ⟨u,h1,h2,h3,h4,h5⟩:=G.at_ hj2
    rw [h5] at hj
    injection hj with hj
    have h6:=G.below h1 h2
    have h7:=idx_inj G.ho h6.1 (by omega) (by omega) (by omega) hj
    exact ⟨(u:Int),(G.h.kids hv h2).mpr h7,by rw [h4,Nat.zero_add]⟩
  · rintro ⟨c,hc,rfl⟩
    have h1:=G.h.kid_range hv hc
    obtain ⟨u,rfl⟩:=Int.eq_ofNat_of_zero_le (show 0≤c by omega)
    have h2:=(G.h.kids hv (by omega)).mp hc
    have h3:=G.below (v:=u) (by omega) (by omega)
    have h4:=rd_idx G.ho (v:=(u:Int)) (by omega) (by omega)
    obtain ⟨j,hj⟩:∃ j:Nat,idx (u:Int) l 0=((j+1:Nat):Int):=⟨(idx (u:Int) l 0).toNat - 1,by omega⟩
    obtain ⟨u',h5,h6,h7,h8,h9⟩:=G.at_ (j:=j) (by omega)
    rw [hj] at h4
    have h10:u'=u:=by have:=h4.2.2;omega
    subst h10
    rw [h2] at h9
    rw [hj]
    exact ch_of h9
theorem ch_eq (G:Gro d t l q) {v:Nat} (hv:v<t.size):asc (kl t l v)=true↔ch q 0 (idx (v:Int) l 0)=kl t l v:=by
  have hn:(kl t l v).Nodup:=by
    unfold kl
    have h1:=roots_sorted (t.sub v) (v+1)
    have h2:∀ c∈(t.sub v).roots (v+1),0≤c∧c<(t.size:Int):=fun c hc=>by have:=G.h.kid_range hv hc;omega
    generalize (t.sub v).roots (v+1)=r at h1 h2
    induction r with
    | nil=>simp
    | cons a r ih =>
      rw [List.pairwise_cons] at h1
      rw [List.map_cons,List.nodup_cons]
      refine ⟨fun hm=>?_,ih h1.2 (fun c hc=>h2 c (List.mem_cons_of_mem _ hc))⟩
      obtain ⟨b,hb,he⟩:=List.mem_map.mp hm
      have h3:=h2 a (by simp)
      have h4:=h2 b (List.mem_cons_of_mem _ hb)
      have h5:=idx_inj G.ho h4.1 h4.2 h3.1 h3.2 he
      have h6:=h1.1 b hb
      omega
  rw [asc_sorted _ hn]
  exact ⟨fun h=>sorted_ext _ _ (ch_sorted _ _ _) h (fun x=>G.ch_iff hv x),fun h=>by rw [← h];exact ch_sorted _ _ _⟩
theorem ext {a b:List Int} (hl:a.length=b.length) (h:∀ i:Nat,i<a.length→rd a (i:Int)=rd b (i:Int)):a=b:=by
  refine List.ext_getElem hl (fun i h1 h2=>?_)
  have:=h i h1
  rwa [rd_getElem h1,rd_getElem h2] at this
theorem rd_map {n:Nat} {f:Int→Int} {i:Nat} (hi:i<n):rd ((List.range' 0 n).map (fun v:Nat=>f (v:Int))) (i:Int)=f (i:Int):=by
  rw [rd_getElem (by simp [hi])];simp
theorem one (G:Gro d t l q):t.roots 0=[0]∧t.len=1:=by
  obtain ⟨b,rfl⟩:=G.h.one
  exact ⟨rfl,rfl⟩
theorem main (G:Gro d t l q):whole t l=true↔(wd q (q.length+1) 0=d∧place 0 (wl q (q.length+1) 0) (List.replicate (q.length+1) 0)=l):=by
  have hq:=G.grows
  have hl:=G.hl
  have h1:=G.one
  have h0:=G.zero.2
  have hll:=G.ho.1
  have hen:=G.h.enc
  have hrange:∀ v:Nat,v<t.size→0≤idx (v:Int) l 0∧idx (v:Int) l 0≤(q.length:Int):=fun v hv=>by have:=rd_idx G.ho (v:=(v:Int)) (by omega) (by omega);omega
  have hwhole:whole t l=true↔∀ v:Nat,v<t.size→ch q 0 (idx (v:Int) l 0)=kl t l v:=by
    unfold whole
    rw [List.all_eq_true]
    constructor
    · intro h v hv;exact (G.ch_eq hv).mp (h v (List.mem_range.mpr hv))
    · intro h v hv;exact (G.ch_eq (List.mem_range.mp hv)).mpr (h v (List.mem_range.mp hv))
  rw [hwhole]
  constructor
  · intro hP
    have hA:=flat_all (f:=fun c=>idx c l 0) hq t 0 (fun v hv=>by rw [Nat.zero_add];exact hrange v hv) (fun v hv=>by rw [Nat.zero_add];exact hP v hv)
    rw [h1.1,List.map_cons,List.map_nil,h0,List.flatMap_cons,List.flatMap_nil,List.append_nil,List.flatMap_cons,List.flatMap_nil,List.append_nil] at hA
    refine ⟨hA.1.trans hen.symm,?_⟩
    rw [hA.2]
    have hnd:((List.range' 0 t.size).map (fun v:Nat=>idx (v:Int) l 0)).Nodup:=by rw [← hA.2];exact (wl_perm hq _ (by omega)).nodup_iff.mpr (List.Pairwise.map _ (fun a b h=>by omega) (List.nodup_range (n:=q.length+1)))
    refine ext (by rw [place_len,List.length_replicate];omega) (fun i hi=>?_)
    rw [place_len,List.length_replicate] at hi
    have hi2:i<t.size:=by omega
    rw [place_rd _ _ _ _ hnd (fun x hx=>by obtain ⟨v,hv,rfl⟩:=List.mem_map.mp hx;exact (hrange v (by have:=List.mem_range'_1.mp hv;omega)).1) (by rw [List.length_replicate];exact hi)]
    have h2:=isOrd_rd G.ho hi2
    have h3:=idx_rd G.ho hi2
    obtain ⟨v,hv⟩:=Int.eq_ofNat_of_zero_le h2.1
    have hm:(i:Int)∈(List.range' 0 t.size).map (fun v:Nat=>idx (v:Int) l 0):=List.mem_map.mpr ⟨v,List.mem_range'_1.mpr (by omega),by rw [← hv];exact h3⟩
    rw [if_pos hm]
    have h4:=(idx_mem (i:Int) _ 0).mpr hm
    have h5:=idx_get (i:Int) _ 0 h4
    have h6:=idx_range (i:Int) ((List.range' 0 t.size).map (fun v:Nat=>idx (v:Int) l 0)) 0
    obtain ⟨w,hw⟩:=Int.eq_ofNat_of_zero_le h4
    rw [hw] at h5 h6 ⊢
    have hwn:w<t.size:=by rw [List.length_map,List.length_range'] at h6;omega
    rw [show ((w:Int) - ((0:Nat):Int))=(w:Int) by omega,rd_map (f:=fun c=>idx c l 0) hwn] at h5
    have h7:=(rd_idx G.ho (v:=(w:Int)) (by omega) (by omega)).2.2
    rw [← h7]
    exact congrArg (rd l) h5
  · rintro ⟨hd,hp⟩ v hv
    have hperm:=wl_perm hq (q.length+1) (by omega)
    have hol:isOrd t.size (wl q (q.length+1) 0):=⟨by rw [wl_len hq _ (by omega)];exact hl,hperm.nodup_iff.mpr (List.Pairwise.map _ (fun a b h=>by omega) (List.nodup_range (n:=q.length+1))),fun x hx=>by have:=wl_mem hq _ 0 x (by omega) hx;omega⟩
    have hL:wl q (q.length+1) 0=(List.range' 0 t.size).map (fun v:Nat=>idx (v:Int) l 0):=by
      refine ext (by rw [hol.1,List.length_map,List.length_range']) (fun i hi=>?_)
      rw [hol.1] at hi
      rw [rd_map (f:=fun c=>idx c l 0) hi]
      have h2:=isOrd_rd hol hi
      have h3:=idx_rd hol hi
      obtain ⟨x,hx⟩:=Int.eq_ofNat_of_zero_le h2.1
      rw [hx] at h2 h3 ⊢
      have h4:rd l (x:Int)=(i:Int):=by
        rw [← hp,place_rd _ _ _ _ hol.2.1 (fun y hy=>(hol.2.2 y hy).1) (by rw [List.length_replicate];omega),if_pos ((isOrd_mem hol).mpr (by omega))]
        exact h3
      have h5:=idx_rd G.ho (i:=x) (by omega)
      rw [h4] at h5
      exact h5.symm
    have hB:=flat_back (f:=fun c=>idx c l 0) hq t 0 [0] (by rw [h1.2];rfl) (fun c hc=>by rw [List.mem_singleton] at hc;omega) (by rw [List.flatMap_cons,List.flatMap_nil,List.append_nil,hd];exact hen) (by rw [List.flatMap_cons,List.flatMap_nil,List.append_nil,hL])
    have h:=hB.2 v hv
    rw [Nat.zero_add] at h
    exact h
end Gro
end Go.Proofs.YtlppkilencpmeaaGreat.Lg
namespace Go.Proofs.YtlppkilencpmeaaGreat.Tr
open Go.RowKit Go.Proofs.YtlppkilencpmeaaGreatW.PrintWords
set_option linter.unusedSimpArgs false
set_option linter.unusedVariables false
namespace F
end F
end Go.Proofs.YtlppkilencpmeaaGreat.Tr
namespace Go.Proofs.YtlppkilencpmeaaGreat.Lg
open Go.RowKit Go.Proofs.YtlppkilencpmeaaGreatW.PrintWords Go.Proofs.YtlppkilencpmeaaGreat.Tr Go.Proofs.YtlppkilencpmeaaGreat.Gt
set_option linter.unusedSimpArgs false
set_option linter.unusedVariables false
theorem grown {q:List Int} (hq:Grows q) (hn:q.length≤23):∃ t,Tree (wd q (q.length+1) 0) t∧t.size=q.length+1∧isOrd t.size (place 0 (wl q (q.length+1) 0) (List.replicate (q.length+1) 0))∧growing t (place 0 (wl q (q.length+1) 0) (List.replicate (q.length+1) 0))=true:=by
  obtain ⟨t,ht1,ht2⟩:=wd_enc hq (q.length+1) [0] (by simp;omega)
  simp only [List.flatMap_cons,List.flatMap_nil,List.append_nil] at ht2
  have hlen:(wl q (q.length+1) 0).length=q.length+1:=wl_len hq _ (by omega)
  have hsz:t.size=q.length+1:=by rw [← F.enc_len,← ht2,wd_len,hlen]
  have hT:Tree (wd q (q.length+1) 0) t:=⟨ht2,by
    cases t with
    | nil=>simp [F.len] at ht1
    | cons b n =>
      obtain rfl:=F.len_zero (f:=n) (by simp [F.len] at ht1;omega)
      exact ⟨b,rfl⟩,by omega⟩
  have hperm:=wl_perm hq (q.length+1) (by omega)
  have hnd:(wl q (q.length+1) 0).Nodup:=hperm.nodup_iff.mpr (List.Pairwise.map _ (fun a b h=>by omega) (List.nodup_range (n:=q.length+1)))
  have hmem:∀ x,x∈wl q (q.length+1) 0↔0≤x∧x≤(q.length:Int):=fun x=>by
    rw [hperm.mem_iff,List.mem_map]
    constructor
    · rintro ⟨y,hy,rfl⟩;have:=List.mem_range.mp hy;omega
    · rintro ⟨h0,h1⟩;exact ⟨x.toNat,List.mem_range.mpr (by omega),by omega⟩
  generalize hW:wl q (q.length+1) 0=W at *
  have hrd:∀ i:Nat,i<q.length+1→rd (place 0 W (List.replicate (q.length+1) 0)) (i:Int)=idx (i:Int) W 0:=fun i hi=>by
    rw [place_rd W 0 _ i hnd (fun x hx=>((hmem x).mp hx).1) (by simpa using hi),if_pos ((hmem _).mpr (by omega))]
  have hWo:isOrd (q.length+1) W:=⟨hlen,hnd,fun x hx=>by have:=(hmem x).mp hx;omega⟩
  have hpl:(place 0 W (List.replicate (q.length+1) 0)).length=q.length+1:=by rw [place_len];simp
  generalize hL:place 0 W (List.replicate (q.length+1) 0)=L at *
  have hrl:∀ i:Nat,i<q.length+1→0≤rd L (i:Int)∧rd L (i:Int)<((q.length+1:Nat):Int)∧rd W (rd L (i:Int))=(i:Int):=fun i hi=>by
    rw [hrd i hi];exact rd_idx hWo (by omega) (by omega)
  have hLo:isOrd (q.length+1) L:=by
    refine ⟨hpl,?_,fun x hx=>?_⟩
    · rw [List.nodup_iff_pairwise_ne,List.pairwise_iff_getElem]
      intro i j hi hj hij he
      have h1:=(hrl i (by omega)).2.2
      have h2:=(hrl j (by omega)).2.2
      rw [rd_getElem hi] at h1
      rw [rd_getElem hj] at h2
      rw [he] at h1
      omega
    · obtain ⟨i,hi,rfl⟩:=List.getElem_of_mem hx
      have h1:=hrl i (by omega)
      rw [rd_getElem (by omega)] at h1
      exact ⟨h1.1,h1.2.1⟩
  have hidx:∀ v:Nat,v<q.length+1→idx (v:Int) L 0=rd W (v:Int):=fun v hv=>by
    have h1:=isOrd_rd hWo hv
    have h2:=hrd (rd W (v:Int)).toNat (by omega)
    rw [Int.toNat_of_nonneg h1.1,idx_rd hWo hv] at h2
    have h3:=idx_rd hLo (i:=(rd W (v:Int)).toNat) (by omega)
    rw [Int.toNat_of_nonneg h1.1,h2] at h3
    rw [h3]
  refine ⟨t,hT,hsz,by rw [hsz];exact hLo,?_⟩
  have hfb:=flat_back (f:=fun v=>rd W v) hq t 0 [0] ht1.symm (by simp) (by simp [ht2]) (by
    simp only [List.flatMap_cons,List.flatMap_nil,List.append_nil,hW]
    apply List.ext_getElem
    · simp [hlen,hsz]
    · intro i h1 h2
      simp [rd_getElem h1])
  unfold growing
  rw [grows_pos hT (by rw [hsz];exact hLo)]
  intro v h1 hv
  obtain ⟨p,hp⟩:=Int.eq_ofNat_of_zero_le (hT.par_pos h1 hv).1
  have hpl2:=(hT.par_pos h1 hv).2
  rw [hp] at hpl2 ⊢
  have hk:=(hT.kids (v:=p) (c:=v) (by omega) hv).mpr hp
  have h4:=hfb.2 p (by omega)
  rw [Nat.zero_add] at h4
  have h5:rd W (v:Int)∈ch q 0 (rd W (p:Int)):=by rw [h4];exact List.mem_map.mpr ⟨_,hk,rfl⟩
  have h6:=ch_kid hq h5
  rw [hidx v (by omega),hidx p (by omega)]
  omega
end Go.Proofs.YtlppkilencpmeaaGreat.Lg
namespace Go.Proofs.YtlppkilencpmeaaGreat.Dr
open Go.RowKit Go.Proofs.YtlppkilencpmeaaGreatW.PrintWords
theorem u64_in (x:Int):0≤IntKind.u64.wrap x∧IntKind.u64.wrap x<18446744073709551616:=by
  have h:IntKind.u64.wrap x=x % 18446744073709551616:=by rfl
  rw [h];omega
theorem low_in {x:Int} (h0:0≤x) (h1:x<18446744073709551616):0≤Go.bits .and .u64 x 16777215∧Go.bits .and .u64 x 16777215≤16777215:=by
  obtain ⟨n,rfl⟩:=Int.eq_ofNat_of_zero_le h0
  have h:=Go.bits_and_u64_nat n 16777215 (by omega) (by omega)
  rw [show ((16777215:Nat):Int)=16777215 from rfl] at h
  rw [h]
  have:=Nat.and_le_right (n:=n) (m:=16777215)
  omega
theorem hash_in (x:Int):0≤Go.bits .and .u64 (IntKind.u64.wrap x / 8589934592) 16777215∧Go.bits .and .u64 (IntKind.u64.wrap x / 8589934592) 16777215≤16777215:=by
  have h:=u64_in x
  exact low_in (by omega) (by omega)
theorem tmod_in {a b:Int} (h0:0≤a) (hb:1≤b):0≤Int.tmod a b∧Int.tmod a b<b:=by
  rw [Int.tmod_eq_emod_of_nonneg h0]
  exact ⟨Int.emod_nonneg _ (by omega),Int.emod_lt_of_pos _ (by omega)⟩
def Cod (C:List Int):Prop:=C.length≤1000000∧∀ x∈C,0≤x∧x≤255
theorem cod_rd {C:List Int} (h:Cod C) (i:Int):0≤rd C i∧rd C i≤255:=by
  unfold rd
  rw [List.getD_eq_getElem?_getD]
  cases hl:C[i.toNat]? with
  | none=>simp
  | some x=>simpa using h.2 x (List.mem_of_getElem? hl)
end Go.Proofs.YtlppkilencpmeaaGreat.Dr
namespace Go.Proofs.YtlppkilencpmeaaGreat.Tr
open Go.RowKit Go.Proofs.YtlppkilencpmeaaGreatW.PrintWords
def okw:List Int→Int→Prop
  | [],m=>m=0
  | x :: xs,m=>1≤m∧0≤x∧okw xs (m - 1+x)
theorem okw_enc:∀ (l:List Int) (m:Int),0≤m→okw l m→∃ g:F,l=g.enc∧(g.len:Int)=m:=by
  intro l
  induction l with
  | nil=>intro m _ h;exact ⟨.nil,rfl,by simp only [okw] at h;simp [F.len,h]⟩
  | cons x xs ih =>
    intro m hm h
    simp only [okw] at h
    obtain ⟨h0,h1,h3⟩:=h
    obtain ⟨g,rfl,hg⟩:=ih (m - 1+x) (by omega) h3
    obtain ⟨b,n,rfl,hb⟩:=F.split g x.toNat (by omega)
    refine ⟨.cons b n,?_,?_⟩
    · simp only [F.enc,F.app_enc,List.cons.injEq,and_true];omega
    · rw [F.app_len] at hg;simp only [F.len];omega
theorem okw_tree {d:List Int} (h:okw d 1) (h2:d.length≤24):∃ t,Tree d t:=by
  obtain ⟨g,rfl,hg⟩:=okw_enc d 1 (by omega) h
  cases g with
  | nil=>simp [F.len] at hg
  | cons b n =>
    obtain rfl:=F.len_zero (f:=n) (by simp [F.len] at hg;omega)
    exact ⟨.cons b .nil,rfl,⟨b,rfl⟩,by rw [F.enc_len] at h2;exact h2⟩
theorem okw_snoc:∀ (l:List Int) (m:Int),okw l m→okw (l++[0]) (m+1):=by
  intro l
  induction l with
  | nil=>intro m h;simp only [okw] at h;simp only [List.nil_append,okw];omega
  | cons x xs ih =>
    intro m h
    simp only [okw,List.cons_append] at h ⊢
    have:=ih _ h.2.2
    rw [show m - 1+x+1=m+1 - 1+x by omega] at this
    exact ⟨by omega,h.2.1,this⟩
theorem okw_add:∀ (l:List Int) (m:Int) (w:Nat),okw l m→w<l.length→okw (l.set w (rd l (w:Int)+1)++[0]) m:=by
  intro l
  induction l with
  | nil=>intro m w h hw;simp at hw
  | cons x xs ih =>
    intro m w h hw
    simp only [okw] at h
    cases w with
    | zero =>
      have:=okw_snoc _ _ h.2.2
      have e:rd (x :: xs) ((0:Nat):Int)=x:=by simp [rd]
      rw [e]
      simp only [List.set_cons_zero,List.cons_append,okw]
      rw [show m - 1+x+1=m - 1+(x+1) by omega] at this
      exact ⟨h.1,by omega,this⟩
    | succ w =>
      have:=ih (m - 1+x) w h.2.2 (by simpa using hw)
      have e:rd (x :: xs) ((w+1:Nat):Int)=rd xs (w:Int):=by unfold rd;rw [Int.toNat_natCast,Int.toNat_natCast];simp
      rw [e]
      simp only [List.set_cons_succ,List.cons_append,okw]
      exact ⟨h.1,h.2.1,this⟩
end Go.Proofs.YtlppkilencpmeaaGreat.Tr
namespace Go.Proofs.YtlppkilencpmeaaGreat.Tr
open Go.RowKit Go.Proofs.YtlppkilencpmeaaGreatW.PrintWords
set_option linter.unusedSimpArgs false
set_option linter.unusedVariables false
def amx (l:List Int):Nat→Nat→Nat→Nat
  | 0,_,b=>b
  | m+1,i,b=>if rd l (i:Int)>rd l (b:Int) then amx l m (i+1) i else amx l m (i+1) b
theorem amx_spec (l:List Int):∀ (m i b:Nat),b<i→(∀ j:Nat,j<b→rd l (j:Int)<rd l (b:Int))→(∀ j:Nat,j<i→rd l (j:Int)≤rd l (b:Int)) →
    amx l m i b<i+m∧∀ j:Nat,j<amx l m i b→rd l (j:Int)<rd l (amx l m i b:Int):=by
  intro m
  induction m with
  | zero=>intro i b hb h1 h2;exact ⟨by simpa [amx] using hb,by simpa [amx] using h1⟩
  | succ m ih =>
    intro i b hb h1 h2
    unfold amx
    by_cases h:rd l (i:Int)>rd l (b:Int)
    · rw [if_pos h]
      have:=ih (i+1) i (by omega) (fun j hj=>by have:=h2 j hj;omega) (fun j hj=>by
        rcases Nat.lt_or_ge j i with q|q
        · have:=h2 j q;omega
        · have:j=i:=by omega
          subst this;omega)
      exact ⟨by omega,this.2⟩
    · rw [if_neg h]
      have:=ih (i+1) b (by omega) h1 (fun j hj=>by
        rcases Nat.lt_or_ge j i with q|q
        · exact h2 j q
        · have:j=i:=by omega
          subst this;omega)
      exact ⟨by omega,this.2⟩
def amax (l:List Int):Nat:=amx l (l.length - 1) 1 0
theorem amax_spec {l:List Int} (h:1≤l.length):amax l<l.length∧∀ j:Nat,j<amax l→rd l (j:Int)<rd l (amax l:Int):=by
  have:=amx_spec l (l.length - 1) 1 0 (by omega) (fun j hj=>by omega) (fun j hj=>by
    have:j=0:=by omega
    subst this;exact Int.le_refl _)
  exact ⟨by unfold amax;omega,this.2⟩
theorem idx_amax {l:List Int} (h:1≤l.length):idx (rd l (amax l:Int)) l 0=(amax l:Int):=by
  obtain ⟨h1,h2⟩:=amax_spec h
  have hx:rd l (amax l:Int)=l[amax l]:=rd_getElem h1
  have hs:l=l.take (amax l)++rd l (amax l:Int) :: l.drop (amax l+1):=by
    rw [hx,← List.drop_eq_getElem_cons h1,List.take_append_drop]
  have hn:rd l (amax l:Int)∉l.take (amax l):=by
    intro hm
    obtain ⟨j,hj,e⟩:=List.mem_iff_getElem.mp hm
    have hj':j<amax l:=by simp at hj;omega
    have:=h2 j hj'
    rw [rd_getElem (by omega:j<l.length)] at this
    rw [List.getElem_take] at e
    omega
  have hg:∀ (x:Int) (a b:List Int) (i:Nat),x∉a→idx x (a++x :: b) i=((i+a.length:Nat):Int):=by
    intro x a
    induction a with
    | nil=>intro b i _;simp [idx]
    | cons y a ih =>
      intro b i hn
      simp only [List.mem_cons,not_or] at hn
      simp only [List.cons_append,idx,if_neg hn.1,List.length_cons]
      rw [ih b (i+1) hn.2];omega
  have:=hg _ _ (l.drop (amax l+1)) 0 hn
  rw [← hs] at this
  rw [this];simp;omega
def dect:Nat→List Int→ByteArray
  | 0,_=>⟨#[48]⟩
  | n+1,l=>if l.length=0 then ⟨#[48]⟩ else (⟨#[49]⟩++dect n (l.take (amax l)))++dect n (l.drop (amax l+1))
theorem dect_size:∀ (n:Nat) (l:List Int),(dect n l).size≤2*l.length+1:=by
  intro n
  induction n with
  | zero=>intro l;show 1≤_;omega
  | succ n ih =>
    intro l
    unfold dect
    split
    · show 1≤_;omega
    · rename_i h
      have h1:=ih (l.take (amax l))
      have h2:=ih (l.drop (amax l+1))
      have h3:=(amax_spec (l:=l) (by omega)).1
      rw [ByteArray.size_append,ByteArray.size_append]
      have:(⟨#[49]⟩:ByteArray).size=1:=rfl
      simp only [List.length_take,List.length_drop] at h1 h2
      omega
def msort' (l:List Int):List Int:=l.mergeSort fun x y=>decide (x≤y)
theorem msort'_len (l:List Int):(msort' l).length=l.length:=List.length_mergeSort _
theorem msort'_perm (l:List Int):(msort' l).Perm l:=List.mergeSort_perm _ _
theorem msort'_sorted (l:List Int):(msort' l).Pairwise (fun x y=>x≤y):=by
  have:=List.pairwise_mergeSort (le:=fun x y:Int=>decide (x≤y)) (by intro a b c;simp;omega) (by intro a b;simp;omega) l
  exact this.imp (by intro a b h;simpa using h)
theorem compact_full {s:List Int} (hs:s.Pairwise (fun x y=>x≤y)):(Lib.compact s).length=s.length↔s.Nodup:=by
  have e1:(Lib.compact s).length=((List.range s.length).filter (Lib.keeps s.toArray)).length:=by
    simp [Lib.compact,Lib.compactUpTo]
  have e2:((List.range s.length).filter (Lib.keeps s.toArray)).length=s.length↔∀ j,j<s.length→Lib.keeps s.toArray j=true:=by
    have:=List.length_filter_eq_length_iff (p:=Lib.keeps s.toArray) (l:=List.range s.length)
    rw [List.length_range] at this
    rw [this]
    simp
  rw [e1,e2]
  have hg:∀ j,j<s.length→(s.toArray)[j]! = s.getD j 0:=by
    intro j hj;simp [hj]
  rw [List.pairwise_iff_getElem] at hs
  constructor
  · intro h
    show s.Pairwise _
    rw [List.pairwise_iff_getElem]
    intro i j hi hj hij e
    have hk:=h j hj
    unfold Lib.keeps at hk
    rw [decide_eq_true_eq] at hk
    rcases hk with hk|hk
    · omega
    · rw [hg j hj,hg (j - 1) (by omega)] at hk
      have h1:s.getD j 0=s[j]:=by simp [hj]
      have h2:s.getD (j - 1) 0=s[j - 1]:=by rw [List.getD_eq_getElem?_getD,List.getElem?_eq_getElem (by omega)];rfl
      rw [h1,h2] at hk
      have h3:=hs (j - 1) j (by omega) hj (by omega)
      have h4:s[i]≤s[j - 1]:=by
        rcases Nat.lt_or_ge i (j - 1) with q|q
        · exact hs i (j - 1) hi (by omega) q
        · have:i=j - 1:=by omega
          subst this;exact Int.le_refl _
      omega
  · intro h j hj
    unfold Lib.keeps
    rw [decide_eq_true_eq]
    by_cases h0:j=0
    · exact .inl h0
    · right
      rw [hg j hj,hg (j - 1) (by omega)]
      have h1:s.getD j 0=s[j]:=by simp [hj]
      have h2:s.getD (j - 1) 0=s[j - 1]:=by rw [List.getD_eq_getElem?_getD,List.getElem?_eq_getElem (by omega)];rfl
      rw [h1,h2]
      have h3:s.Pairwise _:=h
      rw [List.pairwise_iff_getElem] at h3
      have:=h3 (j - 1) j (by omega) hj (by omega)
      exact fun e=>this e.symm
theorem nodup_rd {l:List Int}:l.Nodup↔∀ a:Nat,a<l.length→∀ b:Nat,b<a→rd l (a:Int)≠rd l (b:Int):=by
  show l.Pairwise _↔_
  rw [List.pairwise_iff_getElem]
  constructor
  · intro h a ha b hb
    rw [rd_getElem ha,rd_getElem (by omega:b<l.length)]
    exact fun e=>h b a (by omega) ha hb e.symm
  · intro h i j hi hj hij
    have:=h j hj i hij
    rw [rd_getElem hj,rd_getElem hi] at this
    exact fun e=>this e.symm
end Go.Proofs.YtlppkilencpmeaaGreat.Tr
namespace Go.Proofs.YtlppkilencpmeaaGreat.Tr
open Go.RowKit Go.Proofs.YtlppkilencpmeaaGreatW.PrintWords
set_option linter.unusedSimpArgs false
set_option linter.unusedVariables false
end Go.Proofs.YtlppkilencpmeaaGreat.Tr
namespace Go.Proofs.YtlppkilencpmeaaGreat.Tr
open Go.RowKit Go.Proofs.YtlppkilencpmeaaGreatW.PrintWords
set_option linter.unusedSimpArgs false
set_option linter.unusedVariables false
theorem amx_all (l:List Int):∀ (m i b:Nat),b<i→(∀ j:Nat,j<i→rd l (j:Int)≤rd l (b:Int))→∀ j:Nat,j<i+m→rd l (j:Int)≤rd l (amx l m i b:Int):=by
  intro m
  induction m with
  | zero=>intro i b hb h j hj;exact h j hj
  | succ m ih =>
    intro i b hb h j hj
    unfold amx
    by_cases c:rd l (i:Int)>rd l (b:Int)
    · rw [if_pos c]
      exact ih (i+1) i (by omega) (fun k hk=>by
        rcases Nat.lt_or_ge k i with q|q
        · have:=h k q;omega
        · have:k=i:=by omega
          subst this;omega) j (by omega)
    · rw [if_neg c]
      exact ih (i+1) b (by omega) (fun k hk=>by
        rcases Nat.lt_or_ge k i with q|q
        · exact h k q
        · have:k=i:=by omega
          subst this;omega) j (by omega)
theorem amax_all {l:List Int} (h:1≤l.length) {j:Nat} (hj:j<l.length):rd l (j:Int)≤rd l (amax l:Int) :=
  amx_all l (l.length - 1) 1 0 (by omega) (fun k hk=>by
    have:k=0:=by omega
    subst this;exact Int.le_refl _) j (by omega)
theorem amax_at {l:List Int} {p:Nat} (hp:p<l.length) (h:∀ j:Nat,j<l.length→j≠p→rd l (j:Int)<rd l (p:Int)):amax l=p:=by
  have h1:=amax_spec (l:=l) (by omega)
  have h2:=amax_all (l:=l) (by omega) hp
  by_cases e:amax l=p
  · exact e
  · have:=h (amax l) h1.1 e
    omega
theorem B_cat (a b:List UInt8):B a++B b=B (a++b):=by
  apply ByteArray.ext
  rw [ByteArray.data_append]
  simp [B]
def mirb:F→F
  | F.nil=>.nil
  | F.cons l r=>.cons (mirb r) (mirb l)
theorem mirb_size (t:F):(mirb t).size=t.size:=by
  induction t with
  | nil=>rfl
  | cons l r ihl ihr=>simp only [mirb,F.size,ihl,ihr];omega
def decF:Nat→List Int→F
  | 0,_=>.nil
  | n+1,l=>if l.length=0 then .nil else .cons (decF n (l.take (amax l))) (decF n (l.drop (amax l+1)))
theorem decF_dect:∀ (n:Nat) (l:List Int),dect n l=B (tx (decF n l)):=by
  intro n
  induction n with
  | zero=>intro l;rfl
  | succ n ih =>
    intro l
    unfold dect decF
    by_cases h:l.length=0
    · rw [if_pos h,if_pos h];rfl
    · rw [if_neg h,if_neg h,ih,ih]
      apply ByteArray.ext
      simp [B,tx]
theorem decF_size:∀ (n:Nat) (l:List Int),l.length≤n→(decF n l).size=l.length:=by
  intro n
  induction n with
  | zero=>intro l h;simp only [decF,F.size];omega
  | succ n ih =>
    intro l h
    unfold decF
    by_cases h0:l.length=0
    · rw [if_pos h0,h0];rfl
    · rw [if_neg h0]
      have h1:=(amax_spec (l:=l) (by omega)).1
      simp only [F.size]
      rw [ih _ (by simp;omega),ih _ (by simp;omega)]
      simp;omega
theorem ls_in (t:F):∀ a,∀ x∈ls t a,a≤x∧x<a+t.size:=by
  induction t with
  | nil=>intro a x h;simp [ls] at h
  | cons l r ihl ihr =>
    intro a x h
    simp only [ls,List.mem_append,List.mem_singleton] at h
    simp only [F.size]
    rcases h with (h|h)|h
    · have:=ihl _ x h;omega
    · omega
    · have:=ihr _ x h;omega
theorem ls_nodup (t:F):∀ a,(ls t a).Nodup:=by
  induction t with
  | nil=>intro a;simp [ls]
  | cons l r ihl ihr =>
    intro a
    simp only [ls]
    rw [List.nodup_append,List.nodup_append]
    refine ⟨⟨ihl _,by simp,fun x hx y hy=>?_⟩,ihr _,fun x hx y hy=>?_⟩
    · have:=ls_in l _ x hx
      rw [List.mem_singleton] at hy
      omega
    · have h2:=ls_in r _ y hy
      rcases List.mem_append.mp hx with hx|hx
      · have:=ls_in l _ x hx;omega
      · rw [List.mem_singleton] at hx;omega
theorem decF_ls:∀ (t:F) (n:Nat) (a:Int),t.size≤n→decF n (ls t a)=t:=by
  intro t
  induction t with
  | nil=>intro n a h;cases n <;> simp [decF,ls]
  | cons l r ihl ihr =>
    intro n a h
    simp only [F.size] at h
    cases n with
    | zero=>omega
    | succ n =>
      have hl:=ls_length l (a+r.size)
      have hr:=ls_length r a
      have hL:(ls (F.cons l r) a).length=1+l.size+r.size:=by rw [ls_length];simp only [F.size]
      have hat:rd (ls (F.cons l r) a) (l.size:Int)=a+(l.size+r.size+1:Nat) - 1:=by
        simp only [ls]
        rw [rd_getElem (by simp;omega),List.getElem_append_left (by simp;omega),List.getElem_append_right (by omega)]
        simp
      have hm:amax (ls (F.cons l r) a)=l.size:=by
        refine amax_at (by omega) (fun j hj hne=>?_)
        rw [hat,rd_getElem hj]
        have hmem:(ls (F.cons l r) a)[j]∈ls l (a+r.size)++ls r a:=by
          simp only [ls]
          rcases Nat.lt_or_ge j l.size with q|q
          · rw [List.getElem_append_left (by simp;omega),List.getElem_append_left (by omega)]
            exact List.mem_append_left _ (List.getElem_mem _)
          · rw [List.getElem_append_right (by simp;omega)]
            exact List.mem_append_right _ (List.getElem_mem _)
        rcases List.mem_append.mp hmem with q|q
        · have:=ls_in l _ _ q;omega
        · have:=ls_in r _ _ q;omega
      unfold decF
      rw [if_neg (by omega),hm]
      have e1:(ls (F.cons l r) a).take l.size=ls l (a+r.size):=by
        simp only [ls];rw [List.append_assoc,List.take_append_of_le_length (by omega),List.take_of_length_le (by omega)]
      have e2:(ls (F.cons l r) a).drop (l.size+1)=ls r a:=by
        simp only [ls];rw [List.drop_append_of_le_length (by simp;omega),List.drop_eq_nil_of_le (by simp;omega),List.nil_append]
      rw [e1,e2,ihl n _ (by omega),ihr n _ (by omega)]
def inn:F→Int→List Int
  | F.nil,_=>[]
  | F.cons l r,a=>inn l (a+1)++[a]++inn r (a+1+l.size)
theorem inn_length (t:F):∀ a,(inn t a).length=t.size:=by
  induction t with
  | nil=>intro a;rfl
  | cons l r ihl ihr=>intro a;simp only [inn,List.length_append,List.length_singleton,ihl,ihr,F.size];omega
theorem inn_in (t:F):∀ a,∀ x∈inn t a,a≤x∧x<a+t.size:=by
  induction t with
  | nil=>intro a x h;simp [inn] at h
  | cons l r ihl ihr =>
    intro a x h
    simp only [inn,List.mem_append,List.mem_singleton] at h
    simp only [F.size]
    rcases h with (h|h)|h
    · have:=ihl _ x h;omega
    · omega
    · have:=ihr _ x h;omega
theorem inn_root {L:List Int} {n:Nat} (hn:L.length≤n) {i:Nat} (hi:i<L.length) (h:rd (inn (decF n L) 0) (i:Int)=0):i=amax L:=by
  cases n with
  | zero=>omega
  | succ n =>
    have h1:=(amax_spec (l:=L) (by omega)).1
    unfold decF at h
    rw [if_neg (by omega)] at h
    have hs:=decF_size n (L.take (amax L)) (by simp;omega)
    have hs2:=decF_size n (L.drop (amax L+1)) (by simp;omega)
    rw [List.length_take] at hs
    rw [List.length_drop] at hs2
    generalize decF n (L.take (amax L))=x at *
    generalize decF n (L.drop (amax L+1))=y at *
    have hx:=inn_length x (0+1)
    have hy:=inn_length y (0+1+x.size)
    simp only [inn] at h
    rcases Nat.lt_trichotomy i (amax L) with q|q|q
    · rw [rd_getElem (by simp only [List.length_append,List.length_singleton];omega),List.getElem_append_left (by simp only [List.length_append,List.length_singleton];omega),List.getElem_append_left (by omega)] at h
      have:=inn_in x _ _ (List.getElem_mem (by omega:i<(inn x (0+1)).length))
      omega
    · exact q
    · rw [rd_getElem (by simp only [List.length_append,List.length_singleton];omega),List.getElem_append_right (by simp only [List.length_append,List.length_singleton];omega)] at h
      have:=inn_in y _ _ (List.getElem_mem (by simp only [List.length_append,List.length_singleton];omega:i - (inn x (0+1)++[0]).length<(inn y (0+1+x.size)).length))
      omega
end Go.Proofs.YtlppkilencpmeaaGreat.Tr
namespace Go.Proofs.YtlppkilencpmeaaGreat.Lg
open Go.RowKit Go.Proofs.YtlppkilencpmeaaGreatW.PrintWords Go.Proofs.YtlppkilencpmeaaGreat.Tr Go.Proofs.YtlppkilencpmeaaGreat.Gt
set_option linter.unusedSimpArgs false
set_option linter.unusedVariables false
theorem grown_gro {q:List Int} (hq:Grows q) (hn:q.length≤23):∃ t,t.size=q.length+1∧Gro (wd q (q.length+1) 0) t (place 0 (wl q (q.length+1) 0) (List.replicate (q.length+1) 0)) q:=by
  obtain ⟨t,ht1,ht2⟩:=wd_enc hq (q.length+1) [0] (by simp;omega)
  simp only [List.flatMap_cons,List.flatMap_nil,List.append_nil] at ht2
  have hlen:(wl q (q.length+1) 0).length=q.length+1:=wl_len hq _ (by omega)
  have hsz:t.size=q.length+1:=by rw [← F.enc_len,← ht2,wd_len,hlen]
  have hT:Tree (wd q (q.length+1) 0) t:=⟨ht2,by
    cases t with
    | nil=>simp [F.len] at ht1
    | cons b n =>
      obtain rfl:=F.len_zero (f:=n) (by simp [F.len] at ht1;omega)
      exact ⟨b,rfl⟩,by omega⟩
  have hperm:=wl_perm hq (q.length+1) (by omega)
  have hnd:(wl q (q.length+1) 0).Nodup:=hperm.nodup_iff.mpr (List.Pairwise.map _ (fun a b h=>by omega) (List.nodup_range (n:=q.length+1)))
  have hmem:∀ x,x∈wl q (q.length+1) 0↔0≤x∧x≤(q.length:Int):=fun x=>by
    rw [hperm.mem_iff,List.mem_map]
    constructor
    · rintro ⟨y,hy,rfl⟩;have:=List.mem_range.mp hy;omega
    · rintro ⟨h0,h1⟩;exact ⟨x.toNat,List.mem_range.mpr (by omega),by omega⟩
  generalize hW:wl q (q.length+1) 0=W at *
  have hrd:∀ i:Nat,i<q.length+1→rd (place 0 W (List.replicate (q.length+1) 0)) (i:Int)=idx (i:Int) W 0:=fun i hi=>by
    rw [place_rd W 0 _ i hnd (fun x hx=>((hmem x).mp hx).1) (by simpa using hi),if_pos ((hmem _).mpr (by omega))]
  have hWo:isOrd (q.length+1) W:=⟨hlen,hnd,fun x hx=>by have:=(hmem x).mp hx;omega⟩
  have hpl:(place 0 W (List.replicate (q.length+1) 0)).length=q.length+1:=by rw [place_len];simp
  generalize hL:place 0 W (List.replicate (q.length+1) 0)=L at *
  have hrl:∀ i:Nat,i<q.length+1→0≤rd L (i:Int)∧rd L (i:Int)<((q.length+1:Nat):Int)∧rd W (rd L (i:Int))=(i:Int):=fun i hi=>by
    rw [hrd i hi];exact rd_idx hWo (by omega) (by omega)
  have hLo:isOrd (q.length+1) L:=by
    refine ⟨hpl,?_,fun x hx=>?_⟩
    · rw [List.nodup_iff_pairwise_ne,List.pairwise_iff_getElem]
      intro i j hi hj hij he
      have h1:=(hrl i (by omega)).2.2
      have h2:=(hrl j (by omega)).2.2
      rw [rd_getElem hi] at h1
      rw [rd_getElem hj] at h2
      rw [he] at h1
      omega
    · obtain ⟨i,hi,rfl⟩:=List.getElem_of_mem hx
      have h1:=hrl i (by omega)
      rw [rd_getElem (by omega)] at h1
      exact ⟨h1.1,h1.2.1⟩
  have hidx:∀ v:Nat,v<q.length+1→idx (v:Int) L 0=rd W (v:Int):=fun v hv=>by
    have h1:=isOrd_rd hWo hv
    have h2:=hrd (rd W (v:Int)).toNat (by omega)
    rw [Int.toNat_of_nonneg h1.1,idx_rd hWo hv] at h2
    have h3:=idx_rd hLo (i:=(rd W (v:Int)).toNat) (by omega)
    rw [Int.toNat_of_nonneg h1.1,h2] at h3
    rw [h3]
  have hfb:=flat_back (f:=fun v=>rd W v) hq t 0 [0] ht1.symm (by simp) (by simp [ht2]) (by
    simp only [List.flatMap_cons,List.flatMap_nil,List.append_nil,hW]
    apply List.ext_getElem
    · simp [hlen,hsz]
    · intro i h1 h2
      simp [rd_getElem h1])
  have hgrow:growing t L=true:=by
    unfold growing
    rw [grows_pos hT (by rw [hsz];exact hLo)]
    intro v h1 hv
    obtain ⟨p,hp⟩:=Int.eq_ofNat_of_zero_le (hT.par_pos h1 hv).1
    have hpl2:=(hT.par_pos h1 hv).2
    rw [hp] at hpl2 ⊢
    have hk:=(hT.kids (v:=p) (c:=v) (by omega) hv).mpr hp
    have h4:=hfb.2 p (by omega)
    rw [Nat.zero_add] at h4
    have h5:rd W (v:Int)∈ch q 0 (rd W (p:Int)):=by rw [h4];exact List.mem_map.mpr ⟨_,hk,rfl⟩
    have h6:=ch_kid hq h5
    rw [hidx v (by omega),hidx p (by omega)]
    omega
  refine ⟨t,hsz,⟨hT,by rw [hsz];exact hLo,hgrow,by omega,fun j hj=>?_⟩⟩
  have h1:=hrl (j+1) (by omega)
  obtain ⟨v,hv⟩:=Int.eq_ofNat_of_zero_le h1.1
  rw [hv] at h1 ⊢
  rw [Int.toNat_natCast]
  have hv1:v<t.size:=by omega
  have hne:1≤v:=by
    rcases Nat.eq_zero_or_pos v with rfl|h
    · exfalso
      have h2:=hrl 0 (by omega)
      obtain ⟨u,hu⟩:=Int.eq_ofNat_of_zero_le h2.1
      rw [hu] at h2
      have hgp:=(grows_pos hT (by rw [hsz];exact hLo)).mp hgrow
      rcases Nat.eq_zero_or_pos u with rfl|hu0
      · have:=h1.2.2;have:=h2.2.2;omega
      · have h3:=hgp u hu0 (by omega)
        obtain ⟨p,hp⟩:=Int.eq_ofNat_of_zero_le (hT.par_pos hu0 (by omega)).1
        have hp2:=(hT.par_pos hu0 (by omega:u<t.size)).2
        rw [hp] at h3 hp2
        rw [hidx u (by omega),hidx p (by omega)] at h3
        have h4:=isOrd_rd hWo (i:=p) (by omega)
        have h5:=h2.2.2
        have h6:=h4.1
        have e1:=idx_rd hWo (i:=p) (by omega)
        have e2:=idx_rd hWo (i:=u) (by omega)
        rw [show rd W (p:Int)=0 by omega] at e1
        rw [show rd W (u:Int)=0 by omega] at e2
        omega
    · exact h
  obtain ⟨p,hp⟩:=Int.eq_ofNat_of_zero_le (hT.par_pos hne hv1).1
  have hp2:=(hT.par_pos hne hv1).2
  rw [hp] at hp2 ⊢
  have hk:=(hT.kids (v:=p) (c:=v) (by omega) hv1).mpr hp
  have h4:=hfb.2 p (by omega)
  rw [Nat.zero_add] at h4
  have h5:rd W (v:Int)∈ch q 0 (rd W (p:Int)):=by rw [h4];exact List.mem_map.mpr ⟨_,hk,rfl⟩
  obtain ⟨j2,h6,h7⟩:=ch_mem h5
  rw [hidx p (by omega)]
  have:j2=j:=by have:=h1.2.2;omega
  rw [← this];exact h6
theorem gro_uniq {d l q q':List Int} {t:F} (G:Gro d t l q) (G':Gro d t l q'):q=q':=by
  have h1:=G.hl
  have h2:=G'.hl
  refine List.ext_getElem? (fun j=>?_)
  by_cases hj:j<q.length
  · rw [G.hq j hj,G'.hq j (by omega)]
  · rw [List.getElem?_eq_none (by omega),List.getElem?_eq_none (by omega)]
end Go.Proofs.YtlppkilencpmeaaGreat.Lg
namespace Go.Proofs.YtlppkilencpmeaaGreat.QFnGrowth
open Go.RowKit Go.Proofs.YtlppkilencpmeaaGreatW.PrintWords Go.Proofs.YtlppkilencpmeaaGreatW.PrintLast Go.Proofs.YtlppkilencpmeaaGreatW.PrintMore Go.Proofs.YtlppkilencpmeaaGreat
set_option linter.unusedVariables false
set_option linter.unusedSimpArgs false
theorem Ev_succ {α:Type} {g:Nat→Option α} {r:α} (h:Ev (fun k=>g (k+1)) r):Ev g r:=Ev.step (fun _=>rfl) h
theorem evpos {α:Type} {c:Prop} [Decidable c] {f g:Nat→Option α} {r:α} (h:c) (k:Ev f r):Ev (fun n=>if c then f n else g n) r:=by
  simp only [if_pos h];exact k
theorem evneg {α:Type} {c:Prop} [Decidable c] {f g:Nat→Option α} {r:α} (h:¬ c) (k:Ev g r):Ev (fun n=>if c then f n else g n) r:=by
  simp only [if_neg h];exact k
theorem evsome {α β:Type} {a:α} {f:Nat→α→Option β} {r:β} (k:Ev (fun n=>f n a) r):Ev (fun n=>(some a).bind (f n)) r:=k
theorem evnow {α:Type} {a r:α} (h:a=r):Ev (fun _=>some a) r:=by subst h;exact Ev.now _
def up (m:Int):Nat→List Int
  | 0=>[]
  | n+1=>m :: up (m+1) n
theorem ev_isTree_l0:∀ (l pre:List Int) (m:Int) (n:Int),n=((pre++l).length:Int)→n≤1000→0≤m→m+24*l.length≤100000 →
    Ev (fun k=>impl_isTree.l0 k m (pre++l) n (pre.length:Int)) (Tr.ok l m):=by
  intro l
  induction l with
  | nil =>
    intro pre m n hn hb h0 h1
    refine Ev_succ ?_
    simp only [impl_isTree.l0]
    simp only [List.length_append,List.length_nil] at hn
    refine evneg (by omega) (evnow ?_)
    rfl
  | cons x l ih =>
    intro pre m n hn hb h0 h1
    refine Ev_succ ?_
    simp only [impl_isTree.l0]
    have hn':=hn
    simp only [List.length_append,List.length_cons] at hn h1 ⊢
    refine evpos (by omega) (evpos (by omega) (evpos (by simp;omega) ?_))
    have e:rd (pre++x :: l) (pre.length:Int)=x:=by rw [Tr.rd_app0];exact Tr.rd_cons0 _ _
    rw [e]
    by_cases hm:m=0
    · refine evpos hm (evnow ?_);simp [Tr.ok,hm]
    · refine evneg hm ?_
      by_cases hx:x<0
      · refine evpos hx (evnow ?_);simp [Tr.ok,hm,Int.not_le.mpr hx]
      · refine evneg hx ?_
        by_cases hy:x≥24
        · refine evpos hy (evnow ?_);simp [Tr.ok,hm,Int.not_lt.mpr hy]
        · refine evneg hy ?_
          have e2:wrap64 (m+wrap64 (x - 1))=m - 1+x:=by rw [Tr.wrap_id (x:=x - 1) (by omega) (by omega),Tr.wrap_id (by omega) (by omega)];omega
          have e3:wrap64 ((pre.length:Int)+1)=((pre++[x]).length:Int):=by rw [Tr.wrap_id (by omega) (by omega)];simp
          rw [e2,e3]
          have:=ih (pre++[x]) (m - 1+x) n (by simp;omega) hb (by omega) (by omega)
          simp only [List.append_assoc,List.singleton_append] at this
          rw [show Tr.ok (x :: l) m=Tr.ok l (m - 1+x) by
            have:(m != 0)=true:=bne_iff_ne.mpr hm
            have h4:decide (0≤x)=true:=decide_eq_true (by omega)
            have h5:decide (x<24)=true:=decide_eq_true (by omega)
            simp only [Tr.ok,this,h4,h5,Bool.true_and]]
          exact this
theorem ev_isTree (d:List Int):Ev (fun k=>impl_isTree.f k d) (Tr.isT d):=by
  unfold impl_isTree.f
  by_cases h:(d.length:Int)<1
  · refine evpos h (Ev_succ ?_)
    simp only [impl_isTree.j0]
    refine evpos (by simp) (evnow ?_)
    simp only [Tr.isT,decide_eq_false (by omega:¬ 1≤d.length),Bool.false_and]
  · refine evneg h (Ev_succ ?_)
    simp only [impl_isTree.j0]
    by_cases h2:(d.length:Int)>24
    · refine evpos (decide_eq_true h2) (evnow ?_)
      simp only [Tr.isT,decide_eq_false (by omega:¬ d.length≤24),Bool.false_and,Bool.and_false]
    · refine evneg (by simpa using h2) ?_
      have:=ev_isTree_l0 d [] 1 d.length (by simp) (by omega) (by omega) (by omega)
      rw [show Tr.isT d=Tr.ok d 1 by simp only [Tr.isT,decide_eq_true (by omega:1≤d.length),decide_eq_true (by omega:d.length≤24),Bool.true_and]]
      exact this
theorem ev_IsTree (d:List Int):Ev (fun k=>impl_IsTree.f k d) (Tr.isT d):=by
  unfold impl_IsTree.f
  exact Ev.bind (ev_isTree d) (Ev.now _)
theorem l01In_eq (a b c:Int):spec_l01In.f a b c=some (decide (b≤a∧a≤c)):=by
  unfold spec_l01In.f
  by_cases h:a≥b
  · rw [if_pos h];congr 1;simp;omega
  · rw [if_neg h];congr 1;symm;simp;omega
theorem l01N_eq (d:List Int):spec_l01N.f d=some (d.length:Int):=rfl
theorem ev_l01Is_l0:∀ (l pre:List Int) (m:Int),(pre++l).length≤24→0≤m→(m≥1∨True)→m+25*l.length≤100000 →
    Ev (fun k=>spec_l01Is.l0 k m (pre.length:Int) (pre++l)) (Tr.ok25 l m):=by
  intro l
  induction l with
  | nil =>
    intro pre m hb h0 _ h1
    refine Ev_succ ?_
    simp only [spec_l01Is.l0,List.length_append,List.length_nil]
    refine evneg (by omega) (evnow ?_)
    rfl
  | cons x l ih =>
    intro pre m hb h0 _ h1
    refine Ev_succ ?_
    simp only [spec_l01Is.l0]
    simp only [List.length_append,List.length_cons] at h1 hb ⊢
    refine evpos (by omega) ?_
    have e:rd (pre++x :: l) (pre.length:Int)=x:=by rw [Tr.rd_app0];exact Tr.rd_cons0 _ _
    rw [e,l01In_eq]
    by_cases hm:m=0
    · refine evpos hm (evnow ?_);simp [Tr.ok25,hm]
    · refine evneg hm (evpos (by omega) (evsome ?_))
      by_cases hx:0≤x∧x≤24
      · refine evpos (decide_eq_true hx) ?_
        have e2:wrap64 (wrap64 (m - 1)+x)=m - 1+x:=by rw [Tr.wrap_id (x:=m - 1) (by omega) (by omega),Tr.wrap_id (by omega) (by omega)]
        have e3:wrap64 ((pre.length:Int)+1)=((pre++[x]).length:Int):=by rw [Tr.wrap_id (by omega) (by omega)];simp
        rw [e2,e3]
        have:=ih (pre++[x]) (m - 1+x) (by simp;omega) (by omega) (.inr trivial) (by omega)
        simp only [List.append_assoc,List.singleton_append] at this
        rw [show Tr.ok25 (x :: l) m=Tr.ok25 l (m - 1+x) by
          have:(m != 0)=true:=bne_iff_ne.mpr hm
          simp only [Tr.ok25,this,decide_eq_true hx,Bool.true_and]]
        exact this
      · refine evneg (by simpa using hx) (evnow ?_)
        simp only [Tr.ok25,decide_eq_false hx,Bool.false_and,Bool.and_false]
theorem ev_l01Is (d:List Int):Ev (fun k=>spec_l01Is.f k d) (Tr.isT d):=by
  unfold spec_l01Is.f
  rw [l01N_eq]
  refine evsome ?_
  rw [l01In_eq]
  refine evsome ?_
  by_cases h:(1:Int)≤(d.length:Int)∧(d.length:Int)≤24
  · refine evpos (decide_eq_true h) ?_
    have:=ev_l01Is_l0 d [] 1 (by simp;omega) (by omega) (.inr trivial) (by omega)
    rw [Tr.isT_eq25 d (by omega) (by omega)]
    exact this
  · refine evneg (by simpa using h) (evnow ?_)
    simp only [Tr.isT]
    by_cases h2:1≤d.length
    · simp only [decide_eq_false (by omega:¬ d.length≤24),Bool.false_and,Bool.and_false]
    · simp only [decide_eq_false h2,Bool.false_and]
theorem ev_endOf_l0 (d:List Int) (hd:d.length≤1000) (r:Int):∀ (g:Tr.F) (p j:Nat),Tr.Pl d p g→j+g.size≤100000 →
    Ev (fun k=>impl_endOf.l0 k d ((p+g.size:Nat):Int) (j:Int)) r→Ev (fun k=>impl_endOf.l0 k d (p:Int) ((g.len+j:Nat):Int)) r:=by
  intro g
  induction g with
  | nil=>intro p j _ _ h;simpa [Tr.F.size,Tr.F.len] using h
  | cons b n hb hn =>
    intro p j hp hj h
    have hle:=hp.le
    simp only [Tr.F.size] at hle hj
    have l1:=Tr.F.len_le b
    have l2:=Tr.F.len_le n
    refine Ev_succ ?_
    simp only [impl_endOf.l0,Tr.F.len]
    refine evpos (by omega) (evpos (by omega) (evpos (by omega) ?_))
    rw [hp.deg]
    have e:wrap64 ((p:Int)+1)=((p+1:Nat):Int):=by rw [Tr.wrap_id (by omega) (by omega)];omega
    have e2:wrap64 (((1+n.len+j:Nat):Int)+wrap64 ((b.len:Int) - 1))=((b.len+(n.len+j):Nat):Int):=by
      rw [Tr.wrap_id (x:=(b.len:Int) - 1) (by omega) (by omega),Tr.wrap_id (by omega) (by omega)];omega
    rw [e,e2]
    refine hb (p+1) (n.len+j) hp.below (by omega) ?_
    refine hn (p+1+b.size) j hp.next (by omega) ?_
    rw [show p+1+b.size+n.size=p+(Tr.F.cons b n).size by simp only [Tr.F.size];omega]
    exact h
theorem ev_endOf {d:List Int} (hd:d.length≤1000) {p:Nat} {b n:Tr.F} (h:Tr.Pl d p (.cons b n)):Ev (fun k=>impl_endOf.f k d (p:Int)) ((p+1+b.size:Nat):Int):=by
  unfold impl_endOf.f
  have:=ev_endOf_l0 d hd ((p+1+b.size:Nat):Int) (.cons b .nil) p 0 h.one (by have:=h.le;simp only [Tr.F.size] at this ⊢;omega)
  simp only [Tr.F.len,Tr.F.size] at this
  refine this ?_
  refine Ev_succ ?_
  simp only [impl_endOf.l0]
  refine evneg (by omega) (evnow (by omega))
theorem ev_l01End_l0 (d:List Int) (hd:d.length≤1000) (r:Int):∀ (g:Tr.F) (p j:Nat),Tr.Pl d p g→j+g.size≤100000 →
    Ev (fun k=>spec_l01End.l0 k ((p+g.size:Nat):Int) (j:Int) d) r→Ev (fun k=>spec_l01End.l0 k (p:Int) ((g.len+j:Nat):Int) d) r:=by
  intro g
  induction g with
  | nil=>intro p j _ _ h;simpa [Tr.F.size,Tr.F.len] using h
  | cons b n hb hn =>
    intro p j hp hj h
    have hle:=hp.le
    simp only [Tr.F.size] at hle hj
    have l1:=Tr.F.len_le b
    have l2:=Tr.F.len_le n
    refine Ev_succ ?_
    simp only [spec_l01End.l0,Tr.F.len]
    refine evpos (by omega) (evpos (by omega) (evpos (by omega) ?_))
    rw [hp.deg]
    have e:wrap64 ((p:Int)+1)=((p+1:Nat):Int):=by rw [Tr.wrap_id (by omega) (by omega)];omega
    have e2:wrap64 (wrap64 (((1+n.len+j:Nat):Int) - 1)+(b.len:Int))=((b.len+(n.len+j):Nat):Int):=by
      rw [Tr.wrap_id (x:=((1+n.len+j:Nat):Int) - 1) (by omega) (by omega),Tr.wrap_id (by omega) (by omega)];omega
    rw [e,e2]
    refine hb (p+1) (n.len+j) hp.below (by omega) ?_
    refine hn (p+1+b.size) j hp.next (by omega) ?_
    rw [show p+1+b.size+n.size=p+(Tr.F.cons b n).size by simp only [Tr.F.size];omega]
    exact h
theorem ev_l01End {d:List Int} (hd:d.length≤1000) {p:Nat} {b n:Tr.F} (h:Tr.Pl d p (.cons b n)):Ev (fun k=>spec_l01End.f k d (p:Int)) ((p+1+b.size:Nat):Int):=by
  unfold spec_l01End.f
  have:=ev_l01End_l0 d hd ((p+1+b.size:Nat):Int) (.cons b .nil) p 0 h.one (by have:=h.le;simp only [Tr.F.size] at this ⊢;omega)
  simp only [Tr.F.len,Tr.F.size] at this
  refine this ?_
  refine Ev_succ ?_
  simp only [spec_l01End.l0]
  refine evneg (by omega) (evnow (by omega))
theorem ev_kidsOf_l0 (d:List Int) (hd:d.length≤1000):∀ (g:Tr.F) (p i N:Nat) (out:List Int),Tr.Pl d p g→i+g.len=N→N≤1000→out.length≤i →
    Ev (fun k=>impl_kidsOf.l0 k d out (p:Int) (N:Int) (i:Int)) (out++g.roots p):=by
  intro g
  induction g with
  | nil =>
    intro p i N out hp hi hN ho
    simp only [Tr.F.len] at hi
    refine Ev_succ ?_
    simp only [impl_kidsOf.l0]
    refine evneg (by omega) (evnow ?_)
    simp [Tr.F.roots]
  | cons b n hb hn =>
    intro p i N out hp hi hN ho
    simp only [Tr.F.len] at hi
    refine Ev_succ ?_
    simp only [impl_kidsOf.l0]
    refine evpos (by omega) (evpos (by omega) (Ev.bind (ev_endOf hd hp) ?_))
    have e:wrap64 ((i:Int)+1)=((i+1:Nat):Int):=by rw [Tr.wrap_id (by omega) (by omega)];omega
    rw [e]
    have:=hn (p+1+b.size) (i+1) N (out++[(p:Int)]) hp.next (by omega) hN (by simp;omega)
    simpa [Tr.F.roots] using this
theorem ev_kidsOf {d:List Int} (hd:d.length≤1000) {p:Nat} {b n:Tr.F} (h:Tr.Pl d p (.cons b n)):Ev (fun k=>impl_kidsOf.f k d (p:Int)) (b.roots (p+1)):=by
  have hle:=h.le
  simp only [Tr.F.size] at hle
  have l1:=Tr.F.len_le b
  unfold impl_kidsOf.f
  refine evpos (by omega) (evpos (by omega) ?_)
  have e:wrap64 ((p:Int)+1)=((p+1:Nat):Int):=by rw [Tr.wrap_id (by omega) (by omega)];omega
  rw [h.deg,e]
  have:=ev_kidsOf_l0 d hd b (p+1) 0 b.len [] h.below (by omega) (by omega) (by simp)
  simpa using this
theorem ev_l01Children_l0 (d:List Int) (hd:d.length≤1000):∀ (g:Tr.F) (p:Nat) (out:List Int),Tr.Pl d p g→out.length+g.len≤1000 →
    Ev (fun k=>spec_l01Children.l0 k out (p:Int) (g.len:Int) d) (out++g.roots p):=by
  intro g
  induction g with
  | nil =>
    intro p out hp ho
    refine Ev_succ ?_
    simp only [spec_l01Children.l0,Tr.F.len]
    refine evneg (by omega) (evnow ?_)
    simp [Tr.F.roots]
  | cons b n hb hn =>
    intro p out hp ho
    simp only [Tr.F.len] at ho
    refine Ev_succ ?_
    simp only [spec_l01Children.l0,Tr.F.len]
    refine evpos (by omega) (evpos (by omega) (Ev.bind (ev_l01End hd hp) ?_))
    have e:wrap64 (((1+n.len:Nat):Int) - 1)=(n.len:Int):=by rw [Tr.wrap_id (by omega) (by omega)];omega
    rw [e]
    have:=hn (p+1+b.size) (out++[(p:Int)]) hp.next (by simp;omega)
    simpa [Tr.F.roots] using this
theorem ev_l01Children {d:List Int} (hd:d.length≤1000) {p:Nat} {b n:Tr.F} (h:Tr.Pl d p (.cons b n)):Ev (fun k=>spec_l01Children.f k d (p:Int)) (b.roots (p+1)):=by
  have hle:=h.le
  simp only [Tr.F.size] at hle
  have l1:=Tr.F.len_le b
  unfold spec_l01Children.f
  refine evpos (by omega) (evpos (by omega) ?_)
  have e:wrap64 ((p:Int)+1)=((p+1:Nat):Int):=by rw [Tr.wrap_id (by omega) (by omega)];omega
  rw [h.deg,e]
  have:=ev_l01Children_l0 d hd b (p+1) [] h.below (by simp;omega)
  simpa using this
theorem l01Own_eq (l:List Int) (h:l.length≤1000000):spec_l01Own.f l=some l:=by
  unfold spec_l01Own.f
  simp only [Option.bind_some]
  rw [if_pos (by simp;omega)]
  simp
theorem l01Make_eq (l:List Int) (h:l.length≤1000000):spec_l01Make.f l=some l:=by
  unfold spec_l01Make.f
  rw [l01Own_eq l h];rfl
theorem ev_l01Parents_l1 (d:List Int) (v:Nat) (hv:v≤1000) (r:List Int):∀ (l pre out:List Int),(pre++l).length≤1000→(∀ c∈l,0≤c∧c<out.length) →
    Ev (fun k=>spec_l01Parents.l0 k (Tr.setAll out l v) ((v+1:Nat):Int) d) r→Ev (fun k=>spec_l01Parents.l1 k out (v:Int) (pre++l) (pre.length:Int) d) r:=by
  intro l
  induction l with
  | nil =>
    intro pre out hb _ h
    refine Ev_succ ?_
    simp only [spec_l01Parents.l1]
    refine evneg (by simp) ?_
    have e:wrap64 ((v:Int)+1)=((v+1:Nat):Int):=by rw [Tr.wrap_id (by omega) (by omega)];omega
    rw [e];exact h
  | cons c l ih =>
    intro pre out hb hc h
    have h1:=hc c (List.mem_cons_self ..)
    refine Ev_succ ?_
    simp only [spec_l01Parents.l1]
    have e:rd (pre++c :: l) (pre.length:Int)=c:=by rw [Tr.rd_app0];exact Tr.rd_cons0 _ _
    have hb':=hb
    simp only [List.length_append,List.length_cons] at hb
    have e3:wrap64 ((pre.length:Int)+1)=((pre++[c]).length:Int):=by rw [Tr.wrap_id (by omega) (by omega)];simp
    refine evpos (by simp;omega) (evpos (by omega) (evpos (by rw [e];omega) (evpos (by rw [e];omega) ?_)))
    rw [e,e3]
    have:=ih (pre++[c]) (out.set c.toNat v) (by simpa using hb') (fun x hx=>by have:=hc x (List.mem_cons_of_mem _ hx);simpa using this) h
    simpa using this
theorem ev_l01Parents_l0 {d:List Int} {t:Tr.F} (h:Tr.Tree d t):∀ (m v:Nat) (out:List Int),v+m=t.size→out.length=t.size→(∀ c:Nat,c<t.size→t.par 0 (-1) c<v→rd out (c:Int)=t.par 0 (-1) c) →
    Ev (fun k=>spec_l01Parents.l0 k out (v:Int) d) (Tr.parentsL t):=by
  have hle:=h.le
  have hlen:=h.len
  intro m
  induction m with
  | zero =>
    intro v out hv ho hi
    refine Ev_succ ?_
    simp only [spec_l01Parents.l0,l01N_eq]
    refine evsome (evneg (by omega) (evnow ?_))
    refine Tr.each_eq ho (fun c hc=>hi c hc ?_)
    have:=(h.par_lt hc).2;omega
  | succ m ih =>
    intro v out hv ho hi
    refine Ev_succ ?_
    simp only [spec_l01Parents.l0,l01N_eq]
    obtain ⟨n,hp⟩:=h.node (v:=v) (by omega)
    refine evsome (evpos (by omega) (Ev.bind (ev_l01Children (by omega) hp) ?_))
    have hk:∀ c∈(t.sub v).roots (v+1),0≤c∧c<out.length:=fun c hc=>by have:=h.kid_range (v:=v) (by omega) hc;omega
    refine ev_l01Parents_l1 d v (by omega) _ _ [] out ?_ hk ?_
    · have:=Tr.F.len_le (t.sub v)
      have:=h.fits (v:=v) (by omega)
      rw [List.nil_append,Tr.F.roots_len];omega
    · refine ih (v+1) _ (by omega) (by rw [Tr.setAll_len];exact ho) (fun c hc hpc=>?_)
      rw [Tr.setAll_rd v _ _ _ (fun x hx=>(hk x hx).1) (by omega)]
      by_cases e:(c:Int)∈(t.sub v).roots (v+1)
      · rw [if_pos e];exact ((h.kids (by omega) hc).1 e).symm
      · rw [if_neg e]
        refine hi c hc ?_
        have:¬ t.par 0 (-1) c=v:=fun e'=>e ((h.kids (by omega) hc).2 e')
        omega
theorem ev_l01Parents {d:List Int} {t:Tr.F} (h:Tr.Tree d t):Ev (fun k=>spec_l01Parents.f k d) (Tr.parentsL t):=by
  have hle:=h.le
  have hlen:=h.len
  have hpos:=h.pos
  unfold spec_l01Parents.f
  rw [l01N_eq]
  refine evsome (evpos (by omega) (evpos (by omega) (evsome (evpos (by simp;omega) ?_))))
  refine ev_l01Parents_l0 h t.size 0 _ (by omega) (by simp;omega) (fun c hc hp=>?_)
  have e:c=0:=by
    by_cases e:c=0
    · exact e
    · have:=h.par_pos (c:=c) (by omega) hc;omega
  subst e
  rw [h.par_zero]
  have:=Tr.rd_set (l:=List.replicate (d.length:Int).toNat 0) (c:=0) (x:=-1) (i:=0) (by simp;omega) (by omega)
  simpa using this
theorem ev_l09Next_l1 {d:List Int} {t:Tr.F} (h:Tr.Tree d t) (beg:List Int) (met:List Bool) (hm:met.length=t.size) (hmet:∀ v:Nat,v<t.size→rdOf false met (v:Int)=decide ((v:Int)∈beg)):∀ (m v:Nat),v+m=t.size →
    Ev (fun k=>spec_l09Next.l1 k (Tr.parentsL t) met (Tr.nxtTo t beg v) (v:Int) d) (Tr.nxt t beg):=by
  have hle:=h.le
  have hlen:=h.len
  have hpl:(Tr.parentsL t).length=t.size:=Tr.each_len _ _
  intro m
  induction m with
  | zero =>
    intro v hv
    refine Ev_succ ?_
    simp only [spec_l09Next.l1,l01N_eq]
    refine evsome (evneg (by omega) (evnow ?_))
    have:v=t.size:=by omega
    rw [this];rfl
  | succ m ih =>
    intro v hv
    refine Ev_succ ?_
    simp only [spec_l09Next.l1,l01N_eq]
    have hl:=Tr.nxtTo_len t beg v
    have e:wrap64 ((v:Int)+1)=((v+1:Nat):Int):=by rw [Tr.wrap_id (by omega) (by omega)];omega
    have hs:=ih (v+1) (by omega)
    rw [Tr.nxtTo_succ] at hs
    refine evsome (evpos (by omega) (evpos (by omega) (evpos (by omega) ?_)))
    rw [hmet v (by omega),e]
    by_cases h1:(v:Int)∈beg
    · refine evpos (decide_eq_true h1) ?_
      rw [if_neg (by simp [Tr.canNext,h1])] at hs
      exact hs
    · refine evneg (by simpa using h1) ?_
      by_cases h2:v=0
      · refine evpos (by omega) (evpos (by omega) ?_)
        rw [if_pos (by simp [Tr.canNext,h1,h2];subst h2;simpa using h1)] at hs
        exact hs
      · have hp:=h.par_pos (c:=v) (by omega) (by omega)
        have hr:rd (Tr.parentsL t) (v:Int)=t.par 0 (-1) v:=Tr.each_rd (by omega)
        obtain ⟨q,hq⟩:∃ q:Nat,t.par 0 (-1) v=(q:Int):=⟨(t.par 0 (-1) v).toNat,by omega⟩
        refine evneg (by omega) (evpos (by omega) (evpos (by rw [hr];omega) (evpos (by rw [hr];omega) ?_)))
        rw [hr,hq,hmet q (by omega)]
        by_cases h3:(q:Int)∈beg
        · refine evpos (decide_eq_true h3) (evpos (by omega) ?_)
          rw [if_pos (by simp [Tr.canNext,h1,h2,hq,h3])] at hs
          exact hs
        · refine evneg (by simpa using h3) ?_
          rw [if_neg (by simp [Tr.canNext,h1,h2,hq,h3])] at hs
          exact hs
theorem ev_l09Next_l0 {d:List Int} {t:Tr.F} (h:Tr.Tree d t):∀ (l pre:List Int) (met:List Bool),(∀ c∈l,0≤c∧c<t.size)→(pre++l).length≤1000→met.length=t.size→(∀ v:Nat,v<t.size→rdOf false met (v:Int)=decide ((v:Int)∈pre)) →
    Ev (fun k=>spec_l09Next.l0 k (pre++l) (Tr.parentsL t) met [] (pre.length:Int) d) (Tr.nxt t (pre++l)):=by
  intro l
  induction l with
  | nil =>
    intro pre met _ hb hm hmet
    refine Ev_succ ?_
    simp only [spec_l09Next.l0]
    refine evneg (by simp) ?_
    rw [List.append_nil]
    exact ev_l09Next_l1 h pre met hm hmet t.size 0 (by omega)
  | cons c l ih =>
    intro pre met hc hb hm hmet
    have h1:=hc c (List.mem_cons_self ..)
    refine Ev_succ ?_
    simp only [spec_l09Next.l0]
    have e:rd (pre++c :: l) (pre.length:Int)=c:=by rw [Tr.rd_app0];exact Tr.rd_cons0 _ _
    have hb':=hb
    simp only [List.length_append,List.length_cons] at hb
    have e3:wrap64 ((pre.length:Int)+1)=((pre++[c]).length:Int):=by rw [Tr.wrap_id (by omega) (by omega)];simp
    refine evpos (by simp;omega) (evpos (by omega) (evpos (by rw [e];omega) (evpos (by rw [e];omega) ?_)))
    rw [e,e3]
    have:=ih (pre++[c]) (met.set c.toNat true) (fun x hx=>hc x (List.mem_cons_of_mem _ hx)) (by simpa using hb') (by simpa using hm) (fun v hv=>by
      rw [Tr.rdOf_set (by omega) h1.1,hmet v hv]
      by_cases e:c=v
      · rw [if_pos e];simp [e]
      · rw [if_neg e];congr 1;simp only [List.mem_append,List.mem_singleton,eq_iff_iff];constructor
        · exact fun h=>.inl h
        · rintro (h|h)
          · exact h
          · exact absurd h.symm e)
    simpa using this
theorem ev_l09Next {d:List Int} {t:Tr.F} (h:Tr.Tree d t) {beg:List Int} (hb:∀ c∈beg,0≤c∧c<t.size) (hl:beg.length≤1000):Ev (fun k=>spec_l09Next.f k d beg) (Tr.nxt t beg):=by
  have hle:=h.le
  have hlen:=h.len
  unfold spec_l09Next.f
  refine Ev.bind (ev_l01Parents h) ?_
  rw [l01N_eq]
  refine evsome (evpos (by omega) (evpos (by omega) ?_))
  have:=ev_l09Next_l0 h beg [] (List.replicate d.length false) hb (by simpa using hl) (by simpa using hlen) (fun v hv=>by rw [Tr.rdOf_rep];simp)
  simpa using this
theorem ev_l09Fill_first {d:List Int} {t:Tr.F} (h:Tr.Tree d t):∀ (m v:Nat),v+m=t.size→Ev (fun k=>spec_l09Fill.l0 k true (Tr.upto v) d) (Tr.upto t.size):=by
  have hle:=h.le
  have hlen:=h.len
  intro m
  induction m with
  | zero =>
    intro v hv
    refine Ev_succ ?_
    simp only [spec_l09Fill.l0,l01N_eq]
    have:v=t.size:=by omega
    rw [this]
    refine evsome (evneg (by rw [Tr.upto,Tr.each_len];omega) (Ev.now _))
  | succ m ih =>
    intro v hv
    refine Ev_succ ?_
    simp only [spec_l09Fill.l0,l01N_eq]
    have hl:(Tr.upto v).length=v:=Tr.each_len _ _
    obtain ⟨l,e⟩:=Tr.nxt_upto h (m:=v) (by omega)
    refine evsome (evpos (by omega) (Ev.bind (ev_l09Next h (fun c hc=>by have:=Tr.upto_mem.1 hc;omega) (by omega)) (evpos (by simp) (evpos (by rw [e];simp only [List.length_cons];omega) (evpos (by omega) ?_)))))
    rw [e,Tr.rd_cons0]
    have:=ih (v+1) (by omega)
    rw [Tr.upto,Tr.each_succ] at this
    exact this
theorem ev_l09Fill_all {d:List Int} {t:Tr.F} (h:Tr.Tree d t):Ev (fun k=>spec_l09Fill.f k d [] true) (Tr.upto t.size):=by
  unfold spec_l09Fill.f
  rw [l01Own_eq [] (by simp)]
  exact evsome (ev_l09Fill_first h t.size 0 (by omega))
theorem ev_parentsOf_l1 (d:List Int) (v:Nat) (hv:v≤1000) (N:Int) (r:List Int):∀ (l pre out:List Int),(pre++l).length≤1000→(∀ c∈l,0≤c∧c<out.length) →
    Ev (fun k=>impl_parentsOf.l0 k d (Tr.setAll out l v) N ((v+1:Nat):Int)) r→Ev (fun k=>impl_parentsOf.l1 k d out (v:Int) N (v:Int) (pre++l) ((pre++l).length:Int) (pre.length:Int)) r:=by
  intro l
  induction l with
  | nil =>
    intro pre out hb _ h
    refine Ev_succ ?_
    simp only [impl_parentsOf.l1]
    refine evneg (by simp) ?_
    rw [Tr.wrap_succ (by omega)];exact h
  | cons c l ih =>
    intro pre out hb hc h
    have h1:=hc c (List.mem_cons_self ..)
    refine Ev_succ ?_
    simp only [impl_parentsOf.l1]
    have e:rd (pre++c :: l) (pre.length:Int)=c:=by rw [Tr.rd_app0];exact Tr.rd_cons0 _ _
    have hb':=hb
    simp only [List.length_append,List.length_cons] at hb
    refine evpos (by simp;omega) (evpos (by omega) (evpos (by simp;omega) ?_))
    rw [e]
    clear e
    refine evpos h1.1 (evpos h1.2 ?_)
    rw [Tr.wrap_succ (by omega)]
    have:=ih (pre++[c]) (out.set c.toNat v) (by simpa using hb') (fun x hx=>by have:=hc x (List.mem_cons_of_mem _ hx);simpa using this) h
    simpa using this
theorem ev_parentsOf_l0 {d:List Int} {t:Tr.F} (h:Tr.Tree d t):∀ (m v:Nat) (out:List Int),v+m=t.size→out.length=t.size→(∀ c:Nat,c<t.size→t.par 0 (-1) c<v→rd out (c:Int)=t.par 0 (-1) c) →
    Ev (fun k=>impl_parentsOf.l0 k d out (t.size:Int) (v:Int)) (Tr.parentsL t):=by
  have hle:=h.le
  have hlen:=h.len
  intro m
  induction m with
  | zero =>
    intro v out hv ho hi
    refine Ev_succ ?_
    simp only [impl_parentsOf.l0]
    refine evneg (by omega) (evnow ?_)
    refine Tr.each_eq ho (fun c hc=>hi c hc ?_)
    have:=(h.par_lt hc).2;omega
  | succ m ih =>
    intro v out hv ho hi
    refine Ev_succ ?_
    simp only [impl_parentsOf.l0]
    obtain ⟨n,hp⟩:=h.node (v:=v) (by omega)
    refine evpos (by omega) (Ev.bind (ev_kidsOf (by omega) hp) ?_)
    have hk:∀ c∈(t.sub v).roots (v+1),0≤c∧c<out.length:=fun c hc=>by have:=h.kid_range (v:=v) (by omega) hc;omega
    refine ev_parentsOf_l1 d v (by omega) _ _ _ [] out ?_ hk ?_
    · have:=Tr.F.len_le (t.sub v)
      have:=h.fits (v:=v) (by omega)
      rw [List.nil_append,Tr.F.roots_len];omega
    · refine ih (v+1) _ (by omega) (by rw [Tr.setAll_len];exact ho) (fun c hc hpc=>?_)
      rw [Tr.setAll_rd v _ _ _ (fun x hx=>(hk x hx).1) (by omega)]
      by_cases e:(c:Int)∈(t.sub v).roots (v+1)
      · rw [if_pos e];exact ((h.kids (by omega) hc).1 e).symm
      · rw [if_neg e]
        refine hi c hc ?_
        have:¬ t.par 0 (-1) c=v:=fun e'=>e ((h.kids (by omega) hc).2 e')
        omega
theorem ev_parentsOf {d:List Int} {t:Tr.F} (h:Tr.Tree d t):Ev (fun k=>impl_parentsOf.f k d) (Tr.parentsL t):=by
  have hle:=h.le
  have hlen:=h.len
  have hpos:=h.pos
  unfold impl_parentsOf.f slices_Repeat.f
  rw [if_pos (by refine ⟨rfl,?_,?_⟩ <;> omega)]
  refine evsome ?_
  rw [hlen]
  refine ev_parentsOf_l0 h t.size 0 _ (by omega) (by simp) (fun c hc hp=>?_)
  have e:c=0:=by
    by_cases e:c=0
    · exact e
    · have:=h.par_pos (c:=c) (by omega) hc;omega
  subst e
  rw [h.par_zero]
  rw [Tr.rd_getElem (by simp;omega)]
  simp [rd]
theorem ev_Index_l0 (x:Int):∀ (l pre:List Int) (N:Int),N=((pre++l).length:Int)→N≤100000000→Ev (fun k=>slices_Index_int64_int64.l0 k (pre++l) x N (pre.length:Int)) (Tr.idx x l pre.length):=by
  intro l
  induction l with
  | nil =>
    intro pre N hN hb
    refine Ev_succ ?_
    simp only [slices_Index_int64_int64.l0]
    simp only [List.length_append,List.length_nil] at hN
    exact evneg (by omega) (evnow rfl)
  | cons y l ih =>
    intro pre N hN hb
    have hN':=hN
    simp only [List.length_append,List.length_cons] at hN
    refine Ev_succ ?_
    simp only [slices_Index_int64_int64.l0]
    rw [Tr.rd_app0,Tr.rd_cons0]
    refine evpos (by omega) (evpos (by omega) (evpos (by simp;omega) ?_))
    unfold Tr.idx
    by_cases h:x=y
    · rw [if_pos h];exact evpos h (Ev.now _)
    · rw [if_neg h]
      refine evneg h ?_
      rw [Tr.wrap_succ (by omega)]
      have:=ih (pre++[y]) N (by rw [hN'];simp) hb
      simpa using this
theorem ev_Index (l:List Int) (x:Int) (h:l.length≤100000000):Ev (fun k=>slices_Index_int64_int64.f k l x) (Tr.idx x l 0):=by
  unfold slices_Index_int64_int64.f
  exact ev_Index_l0 x l [] l.length (by simp) (by omega)
theorem ev_l09Order_l0 (d:List Int) (hd:d.length≤1000):∀ (l pre:List Int) (met:List Bool),(pre++l).length≤100000000→met.length=d.length→pre.Nodup→(∀ x∈pre,0≤x∧x<d.length)→(∀ v:Nat,v<d.length→rdOf false met (v:Int)=decide ((v:Int)∈pre)) →
    Ev (fun k=>spec_l09Order.l0 k (pre++l) met (pre.length:Int) d) (decide (Tr.isOrd d.length (pre++l))):=by
  intro l
  induction l with
  | nil =>
    intro pre met hb hm hn hr hmet
    refine Ev_succ ?_
    simp only [spec_l09Order.l0,l01N_eq]
    refine evneg (by simp) (evsome (evnow ?_))
    rw [List.append_nil,Bool.eq_iff_iff,beq_iff_eq,decide_eq_true_eq]
    constructor
    · intro e;exact ⟨by omega,hn,hr⟩
    · intro e;have:=e.1;omega
  | cons x l ih =>
    intro pre met hb hm hn hr hmet
    have hb':=hb
    simp only [List.length_append,List.length_cons] at hb
    have e:rd (pre++x :: l) (pre.length:Int)=x:=by rw [Tr.rd_app0];exact Tr.rd_cons0 _ _
    have e3:wrap64 ((pre.length:Int)+1)=((pre++[x]).length:Int):=by rw [Tr.wrap_id (by omega) (by omega)];simp
    refine Ev_succ ?_
    simp only [spec_l09Order.l0,l01N_eq]
    refine evpos (by simp;omega) (evpos (by omega) (evsome ?_))
    rw [e,e3,l01In_eq,Tr.wrap_id (by omega) (by omega)]
    refine evsome ?_
    by_cases hx:0≤x∧x≤(d.length:Int) - 1
    · obtain ⟨v,rfl⟩:=Int.eq_ofNat_of_zero_le hx.1
      have hv:v<d.length:=by omega
      refine evpos (by simpa using hx) (evpos (by omega) (evpos (by omega) ?_))
      rw [hmet v hv]
      by_cases hp:(v:Int)∈pre
      · refine evpos (by simpa using hp) (evnow ?_)
        symm;rw [decide_eq_false_iff_not]
        rintro ⟨_,h2,_⟩
        rw [List.nodup_append] at h2
        exact h2.2.2 _ hp _ (by simp) rfl
      · refine evneg (by simpa using hp) ?_
        have:=ih (pre++[(v:Int)]) (met.set (v:Int).toNat true) (by simpa using hb') (by simpa using hm)
          (by
            rw [List.nodup_append]
            refine ⟨hn,by simp,?_⟩
            intro a ha b hb e
            simp only [List.mem_singleton] at hb
            subst hb;subst e;exact hp ha)
          (by
            intro y hy
            simp only [List.mem_append,List.mem_singleton] at hy
            rcases hy with hy|rfl
            · exact hr y hy
            · omega)
          (fun u hu=>by
            rw [Tr.rdOf_set (by omega) (by omega),hmet u hu]
            by_cases e:(v:Int)=u
            · rw [if_pos e];simp [e]
            · rw [if_neg e];congr 1;simp only [List.mem_append,List.mem_singleton,eq_iff_iff];constructor
              · exact fun h=>.inl h
              · rintro (h|h)
                · exact h
                · exact absurd h.symm e)
        simpa using this
    · refine evneg (by simpa using hx) (evnow ?_)
      symm;rw [decide_eq_false_iff_not]
      rintro ⟨_,_,h3⟩
      have:=h3 x (by simp)
      omega
theorem ev_l09Order (d:List Int) (hd:d.length≤1000) (l:List Int) (hl:l.length≤100000000):Ev (fun k=>spec_l09Order.f k d l) (decide (Tr.isOrd d.length l)):=by
  unfold spec_l09Order.f
  rw [l01N_eq]
  refine evsome (evpos (by omega) (evpos (by omega) ?_))
  have:=ev_l09Order_l0 d hd l [] (List.replicate d.length false) (by simpa using hl) (by simp) (by simp) (by simp) (fun v hv=>by rw [Tr.rdOf_rep];simp)
  simpa using this
theorem ev_l09Growing_l0 {d:List Int} {t:Tr.F} (h:Tr.Tree d t):∀ (l pre:List Int) (met:List Bool),(∀ c∈l,0≤c∧c<t.size)→(pre++l).length≤100000000→met.length=t.size→(∀ v:Nat,v<t.size→rdOf false met (v:Int)=decide ((v:Int)∈pre)) →
    Ev (fun k=>spec_l09Growing.l0 k (pre++l) (Tr.parentsL t) met (pre.length:Int)) (Tr.grows t pre l):=by
  have hle:=h.le
  have hlen:=h.len
  intro l
  induction l with
  | nil =>
    intro pre met _ hb hm hmet
    refine Ev_succ ?_
    simp only [spec_l09Growing.l0]
    exact evneg (by simp) (Ev.now _)
  | cons x l ih =>
    intro pre met hc hb hm hmet
    have h1:=hc x (List.mem_cons_self ..)
    have hb':=hb
    simp only [List.length_append,List.length_cons] at hb
    have e:rd (pre++x :: l) (pre.length:Int)=x:=by rw [Tr.rd_app0];exact Tr.rd_cons0 _ _
    have e3:wrap64 ((pre.length:Int)+1)=((pre++[x]).length:Int):=by rw [Tr.wrap_id (by omega) (by omega)];simp
    obtain ⟨v,rfl⟩:=Int.eq_ofNat_of_zero_le h1.1
    have hv:v<t.size:=by omega
    have hpr:rd (Tr.parentsL t) (v:Int)=t.par 0 (-1) v:=Tr.each_rd hv
    have hpl:(Tr.parentsL t).length=t.size:=Tr.each_len _ _
    have hpv:=h.par_lt hv
    have go:Ev (fun k=>spec_l09Growing.l0 k (pre++(v:Int) :: l) (Tr.parentsL t) (met.set (v:Int).toNat true) ((pre++[(v:Int)]).length:Int)) (Tr.grows t (pre++[(v:Int)]) l):=by
      have:=ih (pre++[(v:Int)]) (met.set (v:Int).toNat true) (fun x hx=>hc x (List.mem_cons_of_mem _ hx)) (by simpa using hb') (by simpa using hm) (fun u hu=>by
        rw [Tr.rdOf_set (by omega) (by omega),hmet u hu]
        by_cases e:(v:Int)=u
        · rw [if_pos e];simp [e]
        · rw [if_neg e];congr 1;simp only [List.mem_append,List.mem_singleton,eq_iff_iff];constructor
          · exact fun h=>.inl h
          · rintro (h|h)
            · exact h
            · exact absurd h.symm e)
      simpa using this
    refine Ev_succ ?_
    simp only [spec_l09Growing.l0]
    refine evpos (by simp;omega) (evpos (by omega) ?_)
    rw [e,e3,hpr,hpl,hm]
    refine evpos (by omega) (evpos (by omega) ?_)
    simp only [Tr.grows]
    rw [show (v:Int).toNat=v from Int.toNat_natCast v] at go ⊢
    generalize t.par 0 (-1) v=q at hpr hpv ⊢
    by_cases hp:0≤q
    · obtain ⟨p,rfl⟩:=Int.eq_ofNat_of_zero_le hp
      refine evpos (by omega) (evpos (by omega) (evpos (by omega) ?_))
      rw [hmet p (by omega),show decide (((p:Int))<0)=false from decide_eq_false (by omega),Bool.false_or]
      by_cases hm2:(p:Int)∈pre
      · refine evpos (by simpa using hm2) (evpos (by omega) ?_)
        rw [decide_eq_true hm2,Bool.true_and]
        exact go
      · refine evneg (by simpa using hm2) (evnow ?_)
        rw [decide_eq_false hm2,Bool.false_and]
    · refine evneg (by omega) (evpos (by omega) ?_)
      rw [decide_eq_true (by omega:q<0),Bool.true_or,Bool.true_and]
      exact go
theorem ev_l09Growing {d:List Int} {t:Tr.F} (h:Tr.Tree d t) {l:List Int} (ho:Tr.isOrd d.length l):Ev (fun k=>spec_l09Growing.f k d l) (Tr.growing t l):=by
  have hle:=h.le
  have hlen:=h.len
  unfold spec_l09Growing.f
  refine Ev.bind (ev_l01Parents h) ?_
  rw [l01N_eq]
  refine evsome (evpos (by omega) (evpos (by omega) ?_))
  have:=ev_l09Growing_l0 h l [] (List.replicate d.length false) (by rw [← hlen];exact ho.2.2) (by have:=ho.1;simp;omega) (by simpa using hlen) (fun v hv=>by rw [Tr.rdOf_rep];simp)
  show Ev _ (Tr.grows t [] l)
  simpa using this
theorem ev_l09Code_bad {d:List Int} (h:Tr.isT d=false) (l:List Int):Ev (fun k=>spec_l09Code.f k d l) 1:=by
  unfold spec_l09Code.f;exact Ev.bind (ev_l01Is d) (evneg (by simp [h]) (Ev.now _))
theorem ev_l09Code {d:List Int} {t:Tr.F} (h:Tr.Tree d t) (l:List Int) (hl:l.length≤100000000):Ev (fun k=>spec_l09Code.f k d l) (Tr.codeG d l t):=by
  have hle:=h.le
  unfold spec_l09Code.f
  refine Ev.bind (ev_l01Is d) (evpos h.isT (Ev.bind (ev_l09Order d (by omega) l hl) ?_))
  unfold Tr.codeG
  by_cases ho:Tr.isOrd d.length l
  · refine evpos (by simpa using ho) (Ev.bind (ev_l09Growing h ho) ?_)
    rw [if_pos ho]
    cases hg:Tr.growing t l with
    | true=>exact evpos rfl (evnow (by simp))
    | false=>exact evneg (by simp) (evnow (by simp))
  · refine evneg (by simpa using ho) (evnow ?_)
    rw [if_neg ho]
theorem ev_orderCode_l0:∀ (l pre:List Int) (N:Int),N=((pre++l).length:Int)→N≤100000000→pre=Tr.upto pre.length →
    Ev (fun k=>impl_orderCode.l0 k (pre++l) N (pre.length:Int)) (if pre++l=Tr.upto (pre++l).length then 0 else 2):=by
  intro l
  induction l with
  | nil =>
    intro pre N hN hb hp
    refine Ev_succ ?_
    simp only [impl_orderCode.l0]
    refine evneg (by simp at hN;omega) (evnow ?_)
    rw [List.append_nil,if_pos hp]
  | cons x l ih =>
    intro pre N hN hb hp
    have hN':=hN
    simp only [List.length_append,List.length_cons] at hN
    have e:rd (pre++x :: l) (pre.length:Int)=x:=by rw [Tr.rd_app0];exact Tr.rd_cons0 _ _
    have e3:wrap64 ((pre.length:Int)+1)=((pre++[x]).length:Int):=by rw [Tr.wrap_id (by omega) (by omega)];simp
    refine Ev_succ ?_
    simp only [impl_orderCode.l0]
    refine evpos (by omega) (evpos (by omega) (evpos (by simp;omega) ?_))
    rw [e,e3]
    by_cases hx:x=(pre.length:Int)
    · refine evpos hx ?_
      have:=ih (pre++[x]) N (by simpa using hN') hb (by
        rw [List.length_append,List.length_singleton]
        show pre++[x]=Tr.each (pre.length+1) _
        rw [Tr.each_succ]
        show pre++[x]=Tr.upto pre.length++[(pre.length:Int)]
        rw [← hp,hx])
      simpa using this
    · refine evneg hx (evnow ?_)
      rw [if_neg]
      intro hq
      have h1:rd (pre++x :: l) (pre.length:Int)=rd (Tr.upto (pre++x :: l).length) (pre.length:Int):=by rw [← hq]
      rw [e,Tr.upto_rd (by simp)] at h1
      exact hx h1
theorem ev_orderCode (d l:List Int) (hl:l.length≤100000000):Ev (fun k=>impl_orderCode.f k d l) (Tr.codeO d l):=by
  unfold impl_orderCode.f Tr.codeO
  refine Ev.bind (ev_IsTree d) ?_
  cases hd:Tr.isT d with
  | false=>exact evneg (by simp) (evnow (by simp))
  | true =>
    refine evpos rfl ?_
    rw [if_pos rfl,show slices_Clone.f l=some l by unfold slices_Clone.f;rw [if_pos hl]]
    refine evsome ?_
    rw [show slices_Sort.f l=some (Tr.msort l) by unfold slices_Sort.f;rw [if_pos hl];rfl]
    refine evsome ?_
    by_cases hn:l.length=d.length
    · refine evpos (by omega) ?_
      have:=ev_orderCode_l0 (Tr.msort l) [] (l.length:Int) (by simp [Tr.msort_len]) (by omega) rfl
      simp only [List.nil_append,List.length_nil,Tr.msort_len,hn] at this
      rw [← hn] at this
      have e:(Tr.isOrd d.length l)=(Tr.msort l=Tr.upto l.length):=by
        rw [eq_iff_iff,Tr.isOrd_sort,← hn];simp
      have e2:(if Tr.isOrd d.length l then (0:Int) else 2)=if Tr.msort l=Tr.upto l.length then 0 else 2:=by
        by_cases q:Tr.isOrd d.length l
        · rw [if_pos q,if_pos (e ▸ q)]
        · rw [if_neg q,if_neg (e ▸ q)]
      rw [e2]
      exact this
    · refine evneg (by omega) (evnow ?_)
      rw [if_neg]
      intro q;exact hn q.1
theorem ev_labelsOf_l0 {n:Nat} {l:List Int} (ho:Tr.isOrd n l) (hn:n≤1000):∀ (r pre out:List Int),l=pre++r→out.length=n→(∀ v:Nat,v<n→(v:Int)∈pre→rd out (v:Int)=Tr.idx (v:Int) l 0) →
    Ev (fun k=>impl_labelsOf.l0 k out l (n:Int) (pre.length:Int)) (Tr.labels l n):=by
  intro r
  induction r with
  | nil =>
    intro pre out hl hol hout
    have:=ho.1
    refine Ev_succ ?_
    simp only [impl_labelsOf.l0]
    rw [List.append_nil] at hl
    refine evneg (by rw [← hl];omega) (evnow ?_)
    refine Tr.each_eq hol (fun v hv=>hout v hv ?_)
    rw [← hl];exact (Tr.isOrd_mem ho).mpr (by omega)
  | cons x r ih =>
    intro pre out hl hol hout
    have hlen:=ho.1
    have hll:l.length=pre.length+(r.length+1):=by rw [hl];simp
    have e:rd l (pre.length:Int)=x:=by rw [hl,Tr.rd_app0];exact Tr.rd_cons0 _ _
    have e3:wrap64 ((pre.length:Int)+1)=((pre++[x]).length:Int):=by rw [Tr.wrap_id (by omega) (by omega)];simp
    have hx:=ho.2.2 x (by rw [hl];simp)
    have hnx:x∉pre:=by
      have:=ho.2.1
      rw [hl,List.nodup_append] at this
      intro hxa
      exact this.2.2 x hxa x (by simp) rfl
    refine Ev_succ ?_
    simp only [impl_labelsOf.l0]
    refine evpos (by omega) (evpos (by omega) (evpos (by omega) ?_))
    rw [e,e3]
    refine evpos (by omega) (evpos (by omega) ?_)
    refine ih (pre++[x]) _ (by rw [hl];simp) (by simpa using hol) (fun v hv hm=>?_)
    rw [Tr.rd_set (by omega) hx.1]
    by_cases hxv:x=(v:Int)
    · rw [if_pos hxv,hl,← hxv,Tr.idx_at hnx]
    · rw [if_neg hxv]
      refine hout v hv ?_
      simp only [List.mem_append,List.mem_singleton] at hm
      rcases hm with hm|hm
      · exact hm
      · exact absurd hm.symm hxv
theorem ev_labelsOf {n:Nat} {l:List Int} (ho:Tr.isOrd n l) (hn:n≤1000):Ev (fun k=>impl_labelsOf.f k l) (Tr.labels l n):=by
  unfold impl_labelsOf.f
  have:=ho.1
  refine evpos (by omega) (evpos (by omega) ?_)
  have:=ev_labelsOf_l0 ho hn l [] (List.replicate (l.length:Int).toNat 0) rfl (by simp;omega) (fun v _ hm=>absurd hm (by simp))
  rw [ho.1] at this ⊢
  simpa using this
theorem ev_isGrowing_l0 {d:List Int} {t:Tr.F} (h:Tr.Tree d t) (l:List Int):∀ (m v:Nat),v+m=t.size→1≤v →
    Ev (fun k=>impl_isGrowing.l0 k d (Tr.labels l t.size) (Tr.parentsL t) (v:Int)) (decide (∀ u:Nat,u<t.size→v≤u→Tr.idx (t.par 0 (-1) u) l 0≤Tr.idx (u:Int) l 0)):=by
  have hle:=h.le
  have hlen:=h.len
  intro m
  induction m with
  | zero =>
    intro v hv h1
    refine Ev_succ ?_
    simp only [impl_isGrowing.l0]
    refine evneg (by omega) (evnow ?_)
    symm;rw [decide_eq_true_eq]
    intro u hu hvu;omega
  | succ m ih =>
    intro v hv h1
    have hvs:v<t.size:=by omega
    have hpr:rd (Tr.parentsL t) (v:Int)=t.par 0 (-1) v:=Tr.each_rd hvs
    have hpl:(Tr.parentsL t).length=t.size:=Tr.each_len _ _
    have hll:(Tr.labels l t.size).length=t.size:=Tr.each_len _ _
    have hpv:=h.par_pos h1 hvs
    have e1:rd (Tr.labels l t.size) (v:Int)=Tr.idx (v:Int) l 0:=Tr.each_rd hvs
    have e2:rd (Tr.labels l t.size) (t.par 0 (-1) v)=Tr.idx (t.par 0 (-1) v) l 0:=by
      obtain ⟨p,hp⟩:=Int.eq_ofNat_of_zero_le hpv.1
      rw [hp] at hpv ⊢
      exact Tr.each_rd (by omega)
    refine Ev_succ ?_
    simp only [impl_isGrowing.l0]
    rw [hpr,e1,e2,hpl,hll,Tr.wrap_succ (by omega)]
    refine evpos (by omega) (evpos (by omega) (evpos (by omega) (evpos (by omega) (evpos (by omega) (evpos (by omega) ?_)))))
    by_cases hlt:Tr.idx (v:Int) l 0<Tr.idx (t.par 0 (-1) v) l 0
    · refine evpos hlt (evnow ?_)
      symm;rw [decide_eq_false_iff_not]
      intro hq
      have:=hq v hvs (Nat.le_refl _)
      omega
    · refine evneg hlt ?_
      have e:(∀ u:Nat,u<t.size→v≤u→Tr.idx (t.par 0 (-1) u) l 0≤Tr.idx (u:Int) l 0)↔(∀ u:Nat,u<t.size→v+1≤u→Tr.idx (t.par 0 (-1) u) l 0≤Tr.idx (u:Int) l 0):=by
        constructor
        · intro hq u hu hvu;exact hq u hu (by omega)
        · intro hq u hu hvu
          rcases Nat.lt_or_ge v u with q|q
          · exact hq u hu q
          · have:u=v:=by omega
            subst this;omega
      rw [decide_eq_decide.mpr e]
      exact ih (v+1) (by omega) (by omega)
theorem ev_isGrowing {d:List Int} {t:Tr.F} (h:Tr.Tree d t) {l:List Int} (ho:Tr.isOrd d.length l):Ev (fun k=>impl_isGrowing.f k d l) (Tr.growing t l):=by
  have hle:=h.le
  have hlen:=h.len
  have hpos:=h.pos
  rw [hlen] at ho
  unfold impl_isGrowing.f
  refine Ev.bind (ev_labelsOf ho (by omega)) (Ev.bind (ev_parentsOf h) ?_)
  have:=ev_isGrowing_l0 h l (t.size - 1) 1 (by omega) (by omega)
  have e:(∀ u:Nat,u<t.size→1≤u→Tr.idx (t.par 0 (-1) u) l 0≤Tr.idx (u:Int) l 0)↔Tr.grows t [] l=true:=by
    rw [Tr.grows_pos h ho]
    constructor
    · intro q v h1 h2;exact q v h2 h1
    · intro q v h1 h2;exact q v h2 h1
  have e':decide (∀ u:Nat,u<t.size→1≤u→Tr.idx (t.par 0 (-1) u) l 0≤Tr.idx (u:Int) l 0)=Tr.growing t l:=by
    rw [Bool.eq_iff_iff,decide_eq_true_eq];exact e
  rw [e'] at this
  exact this
theorem ev_growingCode_bad {d:List Int} (h:Tr.isT d=false) (l:List Int) (hl:l.length≤100000000):Ev (fun k=>impl_growingCode.f k d l) 1:=by
  unfold impl_growingCode.f
  refine Ev.bind (ev_orderCode d l hl) ?_
  have e:Tr.codeO d l=1:=by unfold Tr.codeO;simp [h]
  rw [e];exact evneg (by omega) (Ev.now _)
theorem ev_growingCode {d:List Int} {t:Tr.F} (h:Tr.Tree d t) (l:List Int) (hl:l.length≤100000000):Ev (fun k=>impl_growingCode.f k d l) (Tr.codeG d l t):=by
  unfold impl_growingCode.f
  refine Ev.bind (ev_orderCode d l hl) ?_
  unfold Tr.codeO Tr.codeG
  rw [if_pos h.isT]
  by_cases ho:Tr.isOrd d.length l
  · rw [if_pos ho,if_pos ho]
    refine evpos rfl (Ev.bind (ev_isGrowing h ho) ?_)
    cases hg:Tr.growing t l with
    | true=>exact evpos rfl (evnow (by simp))
    | false=>exact evneg (by simp) (evnow (by simp))
  · rw [if_neg ho,if_neg ho]
    exact evneg (by omega) (Ev.now _)
theorem ev_l09Dec_l0 (l:List Int) (hl:l.length≤1000) (R:ByteArray) (hR:Ev (fun k=>if 0≤(Tr.amax l:Int) then (if (Tr.amax l:Int)≤(l.length:Int) then ((spec_l09Decreasing.f k (l.take (Tr.amax l))).bind fun t106=>(if 1+t106.size≤9223372036854775807 then (if 0≤(wrap64 ((Tr.amax l:Int)+1)) then (if (wrap64 ((Tr.amax l:Int)+1))≤(l.length:Int) then ((spec_l09Decreasing.f k (l.drop ((wrap64 ((Tr.amax l:Int)+1)):Int).toNat)).bind fun t108=>(if ((⟨#[49]⟩:ByteArray)++t106).size+t108.size≤9223372036854775807 then (some (((⟨#[49]⟩:ByteArray)++t106)++t108)) else (none))) else (none)) else (none)) else (none))) else (none)) else (none)) R) :
    ∀ (m i b:Nat),i+m=l.length→b<i→Tr.amx l m i b=Tr.amax l→Ev (fun k=>spec_l09Decreasing.l0 k l (b:Int) (i:Int)) R:=by
  intro m
  induction m with
  | zero =>
    intro i b hi hb ha
    refine Ev_succ ?_
    simp only [spec_l09Decreasing.l0]
    refine evneg (by omega) ?_
    simp only [Tr.amx] at ha
    rw [ha]
    simpa using hR
  | succ m ih =>
    intro i b hi hb ha
    refine Ev_succ ?_
    simp only [spec_l09Decreasing.l0]
    rw [Tr.wrap_succ (by omega)]
    refine evpos (by omega) (evpos (by omega) (evpos (by omega) (evpos (by omega) ?_)))
    unfold Tr.amx at ha
    by_cases h:rd l (i:Int)>rd l (b:Int)
    · rw [if_pos h] at ha
      exact evpos h (ih (i+1) i (by omega) (by omega) ha)
    · rw [if_neg h] at ha
      exact evneg h (ih (i+1) b (by omega) (by omega) ha)
theorem ev_l09Dec:∀ (n:Nat) (l:List Int),l.length≤n→l.length≤1000→Ev (fun k=>spec_l09Decreasing.f k l) (Tr.dect n l):=by
  intro n
  induction n with
  | zero =>
    intro l hn hl
    refine Ev_succ ?_
    simp only [spec_l09Decreasing.f]
    exact evpos (by omega) (Ev.now _)
  | succ n ih =>
    intro l hn hl
    refine Ev_succ ?_
    simp only [spec_l09Decreasing.f]
    by_cases h0:l.length=0
    · refine evpos (by omega) (evnow ?_)
      unfold Tr.dect;rw [if_pos h0]
    · refine evneg (by omega) ?_
      have ha:=(Tr.amax_spec (l:=l) (by omega)).1
      refine ev_l09Dec_l0 l hl _ ?_ (l.length - 1) 1 0 (by omega) (by omega) rfl
      have s1:=Tr.dect_size n (l.take (Tr.amax l))
      have s2:=Tr.dect_size n (l.drop (Tr.amax l+1))
      simp only [List.length_take,List.length_drop] at s1 s2
      refine evpos (by omega) (evpos (by omega) (Ev.bind (ih (l.take (Tr.amax l)) (by simp;omega) (by simp;omega)) ?_))
      rw [Tr.wrap_succ (by omega)]
      refine evpos (by omega) (evpos (by omega) (evpos (by omega) ?_))
      rw [Int.toNat_natCast]
      refine Ev.bind (ih (l.drop (Tr.amax l+1)) (by simp;omega) (by simp;omega)) ?_
      refine evpos ?_ (evnow ?_)
      · rw [ByteArray.size_append]
        have:(⟨#[49]⟩:ByteArray).size=1:=rfl
        omega
      · rw [Tr.dect,if_neg h0]
theorem ev_DecTree_l1 (l:List Int) (hl:l.length≤1000) (i:Nat) (hi:i<l.length) (R:ByteArray × Int) (hR:(∀ j:Nat,j<i→rd l (i:Int)≠rd l (j:Int))→Ev (fun k=>spec_DecreasingTree.l0 k l ((i+1:Nat):Int)) R)
    (hD:¬ (∀ j:Nat,j<i→rd l (i:Int)≠rd l (j:Int))→R=(⟨#[]⟩,2)):∀ (m j:Nat),j+m=i→(∀ a:Nat,a<j→rd l (i:Int)≠rd l (a:Int)) →
    Ev (fun k=>spec_DecreasingTree.l1 k l (i:Int) (j:Int)) R:=by
  intro m
  induction m with
  | zero =>
    intro j hj hd
    refine Ev_succ ?_
    simp only [spec_DecreasingTree.l1]
    rw [Tr.wrap_succ (i:=i) (by omega)]
    exact evneg (by omega) (hR (fun a ha=>hd a (by omega)))
  | succ m ih =>
    intro j hj hd
    refine Ev_succ ?_
    simp only [spec_DecreasingTree.l1]
    rw [Tr.wrap_succ (i:=j) (by omega)]
    refine evpos (by omega) (evpos (by omega) (evpos (by omega) (evpos (by omega) (evpos (by omega) ?_))))
    by_cases h:rd l (i:Int)=rd l (j:Int)
    · refine evpos h (evnow ?_)
      exact (hD (fun q=>q j (by omega) h)).symm
    · refine evneg h (ih (j+1) (by omega) (fun a ha=>?_))
      rcases Nat.lt_or_ge a j with q|q
      · exact hd a q
      · have:a=j:=by omega
        subst this;exact h
theorem ev_DecTree_l0 (l:List Int) (hl:l.length≤1000):∀ (m i:Nat),i+m=l.length→(∀ a:Nat,a<i→∀ b:Nat,b<a→rd l (a:Int)≠rd l (b:Int)) →
    Ev (fun k=>spec_DecreasingTree.l0 k l (i:Int)) (if l.Nodup then (Tr.dect l.length l,0) else (⟨#[]⟩,2)):=by
  intro m
  induction m with
  | zero =>
    intro i hi hd
    refine Ev_succ ?_
    simp only [spec_DecreasingTree.l0]
    refine evneg (by omega) (Ev.bind (ev_l09Dec l.length l (Nat.le_refl _) hl) (evnow ?_))
    rw [if_pos (Tr.nodup_rd.mpr (fun a ha b hb=>hd a (by omega) b hb))]
  | succ m ih =>
    intro i hi hd
    refine Ev_succ ?_
    simp only [spec_DecreasingTree.l0]
    refine evpos (by omega) (ev_DecTree_l1 l hl i (by omega) _ (fun hq=>ih (i+1) (by omega) (fun a ha b hb=>?_)) (fun hq=>?_) i 0 (by omega) (fun a ha=>absurd ha (by omega)))
    · rcases Nat.lt_or_ge a i with q|q
      · exact hd a q b hb
      · have:a=i:=by omega
        subst this;exact hq b hb
    · rw [if_neg]
      intro hn
      exact hq (fun j hj=>Tr.nodup_rd.mp hn i (by omega) j hj)
theorem ev_DecTree_spec (l:List Int):Ev (fun k=>spec_DecreasingTree.f k l) (if l.length≤23∧l.Nodup then (Tr.dect l.length l,0) else (⟨#[]⟩,2)):=by
  unfold spec_DecreasingTree.f
  by_cases h:l.length≤23
  · refine evneg (by omega) ?_
    have:=ev_DecTree_l0 l (by omega) l.length 0 (by omega) (fun a ha=>absurd ha (by omega))
    by_cases hn:l.Nodup
    · rw [if_pos ⟨h,hn⟩];rw [if_pos hn] at this;exact this
    · rw [if_neg (fun q=>hn q.2)];rw [if_neg hn] at this;exact this
  · refine evpos (by omega) (evnow ?_)
    rw [if_neg (fun q=>h q.1)]
theorem ev_Max_l0 (l:List Int) (hl:l.length≤1000):∀ (m i b:Nat),i+m=l.length→Ev (fun k=>slices_Max_int64_int64.l0 k l (rd l (b:Int)) (i:Int)) (rd l (Tr.amx l m i b:Int)):=by
  intro m
  induction m with
  | zero =>
    intro i b hi
    refine Ev_succ ?_
    simp only [slices_Max_int64_int64.l0]
    exact evneg (by omega) (Ev.now _)
  | succ m ih =>
    intro i b hi
    refine Ev_succ ?_
    simp only [slices_Max_int64_int64.l0]
    rw [Tr.wrap_succ (by omega)]
    refine evpos (by omega) (evpos (by omega) ?_)
    unfold Tr.amx
    by_cases h:rd l (i:Int)>rd l (b:Int)
    · rw [if_pos h,show mx (rd l (b:Int)) (rd l (i:Int))=rd l (i:Int) by unfold mx;omega]
      exact ih (i+1) i (by omega)
    · rw [if_neg h,show mx (rd l (b:Int)) (rd l (i:Int))=rd l (b:Int) by unfold mx;omega]
      exact ih (i+1) b (by omega)
theorem ev_Max (l:List Int) (h1:1≤l.length) (hl:l.length≤1000):Ev (fun k=>slices_Max_int64_int64.f k l) (rd l (Tr.amax l:Int)):=by
  unfold slices_Max_int64_int64.f
  exact evneg (by omega) (evpos (by omega) (ev_Max_l0 l hl (l.length - 1) 1 0 (by omega)))
theorem ev_decreasing:∀ (n:Nat) (l:List Int),l.length≤n→l.length≤1000→Ev (fun k=>impl_decreasing.f k l) (Tr.dect n l):=by
  intro n
  induction n with
  | zero =>
    intro l hn hl
    refine Ev_succ ?_
    simp only [impl_decreasing.f]
    exact evpos (by omega) (Ev.now _)
  | succ n ih =>
    intro l hn hl
    refine Ev_succ ?_
    simp only [impl_decreasing.f]
    by_cases h0:l.length=0
    · refine evpos (by omega) (evnow ?_)
      unfold Tr.dect;rw [if_pos h0]
    · refine evneg (by omega) ?_
      have ha:=(Tr.amax_spec (l:=l) (by omega)).1
      have s1:=Tr.dect_size n (l.take (Tr.amax l))
      have s2:=Tr.dect_size n (l.drop (Tr.amax l+1))
      simp only [List.length_take,List.length_drop] at s1 s2
      refine Ev.bind (ev_Max l (by omega) hl) (Ev.bind (ev_Index l _ (by omega)) ?_)
      rw [Tr.idx_amax (by omega)]
      refine evpos (by omega) (evpos (by omega) ?_)
      rw [Int.toNat_natCast]
      refine Ev.bind (ih (l.take (Tr.amax l)) (by simp;omega) (by simp;omega)) ?_
      rw [Tr.wrap_succ (by omega)]
      refine evpos (by omega) (evpos (by omega) (evpos (by omega) ?_))
      rw [Int.toNat_natCast]
      refine Ev.bind (ih (l.drop (Tr.amax l+1)) (by simp;omega) (by simp;omega)) ?_
      refine evpos ?_ (evnow ?_)
      · rw [ByteArray.size_append]
        have:(⟨#[49]⟩:ByteArray).size=1:=rfl
        omega
      · rw [Tr.dect,if_neg h0]
theorem ev_DecreasingTree (l:List Int) (hl:l.length≤100000000):∃ r:ByteArray × Int,Ev (fun k=>spec_DecreasingTree.f k l) r∧Ev (fun k=>impl_DecreasingTree.f k l) r:=by
  refine ⟨_,ev_DecTree_spec l,?_⟩
  unfold impl_DecreasingTree.f
  rw [show slices_Clone.f l=some l by unfold slices_Clone.f;rw [if_pos hl]]
  refine evsome ?_
  rw [show slices_Sort.f l=some (Tr.msort' l) by unfold slices_Sort.f;rw [if_pos hl];rfl]
  refine evsome ?_
  by_cases h:l.length≤23
  · refine evneg (by omega) ?_
    have hml:=Tr.msort'_len l
    have hmn:(Tr.msort' l).Nodup↔l.Nodup:=(Tr.msort'_perm l).nodup_iff
    have hc:slices_Compact.f (Tr.msort' l)=some (if Tr.msort' l=[] then [] else Lib.compact (Tr.msort' l)):=by unfold slices_Compact.f;rw [if_pos (by omega)]
    rw [hc]
    refine evsome ?_
    have hcl:(if Tr.msort' l=[] then [] else Lib.compact (Tr.msort' l)).length=l.length↔l.Nodup:=by
      by_cases h0:Tr.msort' l=[]
      · rw [if_pos h0]
        rw [h0] at hml
        simp only [List.length_nil] at hml ⊢
        have:l=[]:=List.eq_nil_of_length_eq_zero hml.symm
        subst this;simp
      · rw [if_neg h0,← hmn,← Tr.compact_full (Tr.msort'_sorted l),hml]
    by_cases hn:l.Nodup
    · rw [if_pos (show l.length≤23∧l.Nodup from ⟨h,hn⟩)]
      have:=hcl.mpr hn
      exact evpos (by omega) (Ev.bind (ev_decreasing l.length l (Nat.le_refl _) (by omega)) (Ev.now _))
    · rw [if_neg (show ¬ (l.length≤23∧l.Nodup) from fun q=>hn q.2)]
      refine evneg ?_ (Ev.now _)
      intro q
      exact hn (hcl.mp (by omega))
  · refine evpos (by omega) (evnow ?_)
    rw [if_neg (fun q=>h q.1)]
theorem ev_endBinary_l0:∀ (L:List UInt8) (n:Nat),L.length+n≤1000000000→Ev (fun k=>impl_endBinary.l0 k (Tr.B L) (n:Int)) (match Tr.en L n with|some R=>(Tr.B R,true)|none=>((⟨#[]⟩:ByteArray),false)):=by
  intro L
  induction L with
  | nil =>
    intro n hn
    refine Ev_succ ?_
    simp only [impl_endBinary.l0]
    cases n with
    | zero=>rw [Tr.en_zero];exact evneg (by omega) (Ev.now _)
    | succ n =>
      refine evpos (by omega) (evpos (Tr.B_toList _) ?_)
      refine Ev_succ ?_
      simp only [impl_endBinary.j1]
      exact evpos trivial (Ev.now _)
  | cons x L ih =>
    intro n hn
    simp only [List.length_cons] at hn
    refine Ev_succ ?_
    simp only [impl_endBinary.l0]
    cases n with
    | zero=>rw [Tr.en_zero];exact evneg (by omega) (Ev.now _)
    | succ n =>
      have hb:bt (Tr.B (x :: L)) 0=(x.toNat:Int):=Tr.B_bt (x :: L) 0 (by simp)
      have hsz:((Tr.B (x :: L)).size:Int)=(L.length:Int)+1:=by rw [Tr.B_size];simp
      have hex:(Tr.B (x :: L)).extract 1 (Tr.B (x :: L)).size=Tr.B L:=by rw [Tr.B_extract,Tr.B_size,List.take_length];rfl
      refine evpos (by omega) (evneg (by rw [Tr.B_toList];simp) (evpos (by omega) ?_))
      rw [Tr.en]
      by_cases h0:x=48
      · rw [if_pos h0]
        refine evpos (by rw [hb];exact (Tr.u8_48 x).mpr h0) ?_
        refine Ev_succ ?_
        simp only [impl_endBinary.j1]
        refine evneg (by simp) (evpos (by omega) (evneg (by rw [hb,h0];decide) (evpos (by omega) ?_)))
        rw [hex,Tr.wrap_id (x:=((n+1:Nat):Int) - 1) (by omega) (by omega),show ((n+1:Nat):Int) - 1=(n:Int) by omega]
        exact ih n (by omega)
      · rw [if_neg h0]
        have hb0:¬ bt (Tr.B (x :: L)) 0=48:=by rw [hb];exact fun h=>h0 ((Tr.u8_48 x).mp h)
        refine evneg hb0 ?_
        by_cases h1:x=49
        · rw [if_pos h1]
          have hb1:bt (Tr.B (x :: L)) 0=49:=by rw [hb];exact (Tr.u8_49 x).mpr h1
          refine Ev_succ ?_
          simp only [impl_endBinary.j1]
          refine evneg (by rw [hb1];decide) (evpos (by omega) (evpos hb1 (evpos (by omega) ?_)))
          rw [hex,Tr.wrap_id (x:=((n+1:Nat):Int)+1) (by omega) (by omega),show ((n+1:Nat):Int)+1=((n+2:Nat):Int) by omega]
          exact ih (n+2) (by omega)
        · rw [if_neg h1]
          have hb1:¬ bt (Tr.B (x :: L)) 0=49:=by rw [hb];exact fun h=>h1 ((Tr.u8_49 x).mp h)
          refine Ev_succ ?_
          simp only [impl_endBinary.j1]
          exact evpos (bne_iff_ne.mpr hb1) (Ev.now _)
theorem ev_endBinary (L:List UInt8) (h:L.length≤1000000):Ev (fun k=>impl_endBinary.f k (Tr.B L)) (match Tr.en L 1 with|some R=>(Tr.B R,true)|none=>((⟨#[]⟩:ByteArray),false)):=by
  unfold impl_endBinary.f
  exact ev_endBinary_l0 L 1 (by omega)
theorem ev_IsBinary (L:List UInt8):Ev (fun k=>impl_IsBinary.f k (Tr.B L)) (decide (L.length≤47∧Tr.en L 1=some [])):=by
  unfold impl_IsBinary.f
  by_cases h:L.length≤47
  · refine evneg (by rw [Tr.B_size];omega) (Ev.bind (ev_endBinary L (by omega)) ?_)
    cases he:Tr.en L 1 with
    | none=>exact evneg (by simp) (evnow (by simp))
    | some R =>
      refine evpos rfl (evnow ?_)
      rw [Tr.B_toList]
      by_cases hR:R=[]
      · simp [hR,h]
      · simp [hR]
  · refine evpos (by rw [Tr.B_size];omega) (evnow ?_)
    simp [h]
theorem ev_impl_sides (l r:Tr.F) (h:2*(l.size+r.size)≤1000):Ev (fun k=>impl_sides.f k (Tr.B (Tr.tx (Tr.F.cons l r)))) (Tr.B (Tr.tx l),Tr.B (Tr.tx r)):=by
  unfold impl_sides.f
  have hl:=Tr.tx_length l
  have hr:=Tr.tx_length r
  have hs:(Tr.B (Tr.tx (Tr.F.cons l r))).size=2*(l.size+r.size+1)+1:=by rw [Tr.B_size,Tr.tx_length];simp only [Tr.F.size];omega
  refine evpos (by omega) ?_
  have hex:(Tr.B (Tr.tx (Tr.F.cons l r))).extract 1 (Tr.B (Tr.tx (Tr.F.cons l r))).size=Tr.B (Tr.tx l++Tr.tx r):=by rw [Tr.B_extract,Tr.B_size,List.take_length];rfl
  rw [hex]
  have hen:Tr.en (Tr.tx l++Tr.tx r) 1=some (Tr.tx r):=by rw [Tr.en_tx l (Tr.tx r) 0,Tr.en_zero]
  have he:=ev_endBinary (Tr.tx l++Tr.tx r) (by rw [List.length_append];omega)
  rw [hen] at he
  refine Ev.bind he ?_
  have hw:wrap64 (((Tr.B (Tr.tx (Tr.F.cons l r))).size:Int) - ((Tr.B (Tr.tx r)).size:Int))=((2*l.size+2:Nat):Int):=by
    rw [hs,Tr.B_size,hr,Tr.wrap_id (by omega) (by omega)];omega
  dsimp only
  rw [hw]
  refine evpos (by omega) (evpos (by omega) (evnow ?_))
  rw [Int.toNat_natCast,Tr.B_extract]
  congr 2
  show List.drop 1 (List.take (2*l.size+2) (49 :: (Tr.tx l++Tr.tx r)))=Tr.tx l
  rw [List.take_succ_cons,List.drop_succ_cons,List.drop_zero,List.take_append_of_le_length (by omega),List.take_of_length_le (by omega)]
theorem ev_l03End_l0 (A:List UInt8) (hA:A.length≤1000000000):∀ (L:List UInt8) (a n:Nat),A.drop a=L→a+L.length=A.length→L.length+n≤1000000000 →
    Ev (fun k=>spec_l03End.l0 k (Tr.B A) (a:Int) (n:Int)) (match Tr.en L n with|some R=>(A.length:Int) - (R.length:Int)|none=>-1):=by
  intro L
  induction L with
  | nil =>
    intro a n hd ha hn
    simp only [List.length_nil] at ha
    refine Ev_succ ?_
    simp only [spec_l03End.l0]
    cases n with
    | zero=>rw [Tr.en_zero];exact evneg (by omega) (evnow (by simp;omega))
    | succ n =>
      refine evpos (by omega) (evpos (by rw [Tr.B_size];omega) ?_)
      refine Ev_succ ?_
      simp only [spec_l03End.j1]
      exact evpos trivial (Ev.now _)
  | cons x L ih =>
    intro a n hd ha hn
    simp only [List.length_cons] at hn ha
    have ha2:a<A.length:=by omega
    have hx:A[a]=x∧A.drop (a+1)=L:=by
      rw [List.drop_eq_getElem_cons ha2] at hd
      exact ⟨(List.cons.inj hd).1,(List.cons.inj hd).2⟩
    have hsz:((Tr.B A).size:Int)=(A.length:Int):=rfl
    refine Ev_succ ?_
    simp only [spec_l03End.l0]
    cases n with
    | zero=>rw [Tr.en_zero];exact evneg (by omega) (evnow (by simp only [List.length_cons];omega))
    | succ n =>
      have hb:bt (Tr.B A) (a:Int)=(x.toNat:Int):=by rw [Tr.B_bt A a ha2,hx.1]
      refine evpos (by omega) (evneg (by omega) (evpos (by omega) (evpos (by omega) ?_)))
      rw [Tr.en]
      by_cases h0:x=48
      · rw [if_pos h0]
        refine evpos (by rw [hb];exact (Tr.u8_48 x).mpr h0) ?_
        refine Ev_succ ?_
        simp only [spec_l03End.j1]
        refine evneg (by simp) (evpos (by omega) (evpos (by omega) (evneg (by rw [hb,h0];decide) ?_)))
        rw [Tr.wrap_id (x:=((n+1:Nat):Int) - 1) (by omega) (by omega),show ((n+1:Nat):Int) - 1=(n:Int) by omega,Tr.wrap_succ (by omega)]
        exact ih (a+1) n hx.2 (by omega) (by omega)
      · rw [if_neg h0]
        have hb0:¬ bt (Tr.B A) (a:Int)=48:=by rw [hb];exact fun h=>h0 ((Tr.u8_48 x).mp h)
        refine evneg hb0 ?_
        by_cases h1:x=49
        · rw [if_pos h1]
          have hb1:bt (Tr.B A) (a:Int)=49:=by rw [hb];exact (Tr.u8_49 x).mpr h1
          refine Ev_succ ?_
          simp only [spec_l03End.j1]
          refine evneg (by rw [hb1];decide) (evpos (by omega) (evpos (by omega) (evpos hb1 ?_)))
          rw [Tr.wrap_id (x:=((n+1:Nat):Int)+1) (by omega) (by omega),show ((n+1:Nat):Int)+1=((n+2:Nat):Int) by omega,Tr.wrap_succ (by omega)]
          exact ih (a+1) (n+2) hx.2 (by omega) (by omega)
        · rw [if_neg h1]
          have hb1:¬ bt (Tr.B A) (a:Int)=49:=by rw [hb];exact fun h=>h1 ((Tr.u8_49 x).mp h)
          refine Ev_succ ?_
          simp only [spec_l03End.j1]
          exact evpos (bne_iff_ne.mpr hb1) (Ev.now _)
theorem ev_l03Is (L:List UInt8):Ev (fun k=>spec_l03Is.f k (Tr.B L)) (decide (L.length≤47∧Tr.en L 1=some [])):=by
  unfold spec_l03Is.f
  by_cases h:L.length≤47
  · refine evpos (by rw [Tr.B_size];omega) ?_
    have he:=ev_l03End_l0 L (by omega) L 0 1 rfl (by omega) (by omega)
    refine Ev.bind (show Ev (fun k=>spec_l03End.f k (Tr.B L) 0) _ from he) (evnow ?_)
    rw [Tr.B_size]
    cases hq:Tr.en L 1 with
    | none =>
      have:((-1:Int) == (L.length:Int))=false:=beq_eq_false_iff_ne.mpr (by omega)
      simp [this]
    | some R =>
      have hR:=Tr.en_le L 1 R hq
      by_cases hR0:R=[]
      · simp [hR0,h]
      · have hp:0<R.length:=List.length_pos_iff.mpr hR0
        have:((L.length:Int) - (R.length:Int) == (L.length:Int))=false:=beq_eq_false_iff_ne.mpr (by omega)
        simp [this,hR0]
  · refine evneg (by rw [Tr.B_size];omega) (evnow ?_)
    simp [h]
theorem ev_l03Sides (l r:Tr.F) (h:2*(l.size+r.size)≤1000):Ev (fun k=>spec_l03Sides.f k (Tr.B (Tr.tx (Tr.F.cons l r)))) (Tr.B (Tr.tx l),Tr.B (Tr.tx r)):=by
  unfold spec_l03Sides.f
  have hl:=Tr.tx_length l
  have hr:=Tr.tx_length r
  have hs:(Tr.tx (Tr.F.cons l r)).length=2*(l.size+r.size+1)+1:=by rw [Tr.tx_length];simp only [Tr.F.size];omega
  have he:=ev_l03End_l0 (Tr.tx (Tr.F.cons l r)) (by omega) (Tr.tx l++Tr.tx r) 1 1 rfl (by rw [List.length_append];omega) (by rw [List.length_append];omega)
  rw [show Tr.en (Tr.tx l++Tr.tx r) 1=some (Tr.tx r) by rw [Tr.en_tx l (Tr.tx r) 0,Tr.en_zero]] at he
  refine Ev.bind (show Ev (fun k=>spec_l03End.f k (Tr.B (Tr.tx (Tr.F.cons l r))) 1) _ from he) ?_
  dsimp only
  have hw:((Tr.tx (Tr.F.cons l r)).length:Int) - ((Tr.tx r).length:Int)=((2*l.size+2:Nat):Int):=by omega
  rw [hw]
  refine evpos (by omega) (evpos (by rw [Tr.B_size];omega) (evpos (by omega) (evnow ?_)))
  rw [Int.toNat_natCast,Tr.B_extract,Tr.B_extract,Tr.B_size,List.take_length]
  have e1:List.drop 1 (List.take (2*l.size+2) (49 :: (Tr.tx l++Tr.tx r)))=Tr.tx l:=by
    rw [List.take_succ_cons,List.drop_succ_cons,List.drop_zero,List.take_append_of_le_length (by omega),List.take_of_length_le (by omega)]
  have e2:List.drop (2*l.size+2) (49 :: (Tr.tx l++Tr.tx r))=Tr.tx r:=by
    rw [List.drop_succ_cons,List.drop_append,List.drop_eq_nil_of_le (by omega),List.nil_append,show 2*l.size+1 - (Tr.tx l).length=0 by omega,List.drop_zero]
  exact Prod.ext (congrArg Tr.B e1) (congrArg Tr.B e2)
theorem ev_l09List:∀ (t:Tr.F) (a:Int),t.size≤400→0≤a→a+t.size≤1000→Ev (fun k=>spec_l09List.f k (Tr.B (Tr.tx t)) a) (Tr.ls t a):=by
  intro t
  induction t with
  | nil =>
    intro a _ _ _
    refine Ev_succ ?_
    simp only [spec_l09List.f]
    exact evpos (Tr.B_toList _) (Ev.now _)
  | cons l r ihl ihr =>
    intro a h h0 h1
    simp only [Tr.F.size] at h h1
    refine Ev_succ ?_
    simp only [spec_l09List.f]
    have hn:∀ t:Tr.F,t.size≤1000→spec_l03N.f (Tr.B (Tr.tx t))=some (t.size:Int):=by
      intro t ht
      unfold spec_l03N.f
      rw [Tr.B_size,Tr.tx_length,Tr.wrap_id (by omega) (by omega)]
      congr 1;omega
    refine evneg (by rw [Tr.B_toList];exact Tr.tx_ne l r) (Ev.bind (ev_l03Sides l r (by omega)) ?_)
    dsimp only
    rw [hn r (by omega),hn (Tr.F.cons l r) (by simp only [Tr.F.size];omega)]
    simp only [Option.bind_some]
    rw [Tr.wrap_id (x:=a+(r.size:Int)) (by omega) (by omega),Tr.wrap_id (x:=a+((Tr.F.cons l r).size:Int)) (by omega) (by simp only [Tr.F.size];omega),Tr.wrap_id (by omega) (by simp only [Tr.F.size];omega)]
    refine Ev.bind (ihl (a+r.size) (by omega) (by omega) (by omega)) ?_
    have hll:=Tr.ls_length l (a+r.size)
    have hlr:=Tr.ls_length r a
    refine evpos (by omega) ?_
    refine Ev.bind (ihr a (by omega) h0 (by omega)) ?_
    refine evpos (by simp only [List.length_append,List.length_singleton];omega) (evnow ?_)
    rw [Tr.ls]
    congr 3
    simp only [Tr.F.size];omega
theorem Ev_shift {α:Type} {g:Nat→Option α} {r:α} (h:Ev g r) (j:Nat):Ev (fun k=>g (k+j)) r:=by
  obtain ⟨K,hK⟩:=h
  exact ⟨K,fun k hk=>hK _ (by omega)⟩
theorem ev_list_w:∀ (t:Tr.F) (j f:Nat) (a:Int) (L:List Int),0≤a→a+t.size≤400→f+t.size≤L.length→L.length≤1000 →
    Ev (fun k=>impl_ListOfDecreasing.w (k+j) k (Tr.B (Tr.tx t)) (f:Int) (a+t.size - 1) L) (a - 1,L.take f++Tr.ls t a++L.drop (f+t.size)):=by
  intro t
  induction t with
  | nil =>
    intro j f a L h0 h1 h2 h3
    refine Ev_succ ?_
    simp only [impl_ListOfDecreasing.w]
    refine evpos (Tr.B_toList _) (evnow ?_)
    simp [Tr.ls,Tr.F.size]
  | cons l r ihl ihr =>
    intro j f a L h0 h1 h2 h3
    simp only [Tr.F.size] at h1 h2
    refine Ev_succ ?_
    simp only [impl_ListOfDecreasing.w]
    refine evneg (by rw [Tr.B_toList];exact Tr.tx_ne l r) ?_
    have hs:=Ev_shift (ev_impl_sides l r (by omega)) (1+j)
    refine Ev.bind (Ev.congr (fun k=>by rw [Nat.add_assoc]) hs) ?_
    dsimp only
    have hn:impl_nodesOf.f (Tr.B (Tr.tx l))=some (l.size:Int):=by
      unfold impl_nodesOf.f
      rw [Tr.B_size,Tr.tx_length,Tr.wrap_id (by omega) (by omega)]
      congr 1;omega
    rw [hn]
    refine evsome ?_
    have hw:wrap64 ((f:Int)+(l.size:Int))=((f+l.size:Nat):Int):=by rw [Tr.wrap_id (by omega) (by omega)];omega
    have hx:wrap64 (a+((Tr.F.cons l r).size:Int) - 1 - 1)=(a+(r.size:Int))+(l.size:Int) - 1:=by
      simp only [Tr.F.size];rw [Tr.wrap_id (by omega) (by omega)];omega
    have hx2:a+((Tr.F.cons l r).size:Int) - 1=a+(l.size+r.size+1:Nat) - 1:=by simp only [Tr.F.size];omega
    rw [hw,hx,Int.toNat_natCast,hx2]
    refine evpos (by omega) (evpos (by omega) ?_)
    have e1:=ihl (j+1) f (a+r.size) (L.set (f+l.size) (a+(l.size+r.size+1:Nat) - 1)) (by omega) (by omega) (by rw [List.length_set];omega) (by rw [List.length_set];omega)
    obtain ⟨hp,hq⟩:=Tr.ls_parts (L:=L) (f:=f) (n:=l.size) (x:=a+(l.size+r.size+1:Nat) - 1) (X:=Tr.ls l (a+r.size)) (Y:=Tr.ls r a) (m:=r.size) (Tr.ls_length l _) (by omega) _ rfl
    refine Ev.bind (Ev.congr (fun k=>by rw [Nat.add_assoc k 1 j,Nat.add_comm 1 j]) e1) ?_
    dsimp only
    rw [Tr.wrap_succ (by omega)]
    have hll:(L.set (f+l.size) (a+(l.size+r.size+1:Nat) - 1)).length=L.length:=List.length_set
    have hlen:((L.set (f+l.size) (a+(l.size+r.size+1:Nat) - 1)).take f++Tr.ls l (a+r.size)++(L.set (f+l.size) (a+(l.size+r.size+1:Nat) - 1)).drop (f+l.size)).length≤1000:=by
      simp only [List.length_append,List.length_take,List.length_drop,List.length_set,Tr.ls_length];omega
    have e2:=ihr (j+1) (f+l.size+1) a _ h0 (by omega) hp hlen
    rw [hq] at e2
    refine Ev.congr (fun k=>by rw [Nat.add_assoc k 1 j,Nat.add_comm 1 j]) ?_
    rw [show (Tr.F.cons l r).size=l.size+r.size+1 from by simp only [Tr.F.size];omega]
    exact e2
theorem ev_ListOfDecreasing (s:ByteArray):∃ r:List Int × Int,Ev (fun k=>spec_ListOfDecreasing.f k s) r∧Ev (fun k=>impl_ListOfDecreasing.f k s) r∧r.1.length≤1000:=by
  obtain ⟨L,rfl⟩:=Tr.B_of s
  by_cases h:L.length≤47∧Tr.en L 1=some []
  · obtain ⟨t,rfl⟩:=Tr.en_whole h.2
    have hz:t.size≤23:=by have:=h.1;rw [Tr.tx_length] at this;omega
    refine ⟨(Tr.ls t 0,0),?_,?_,by rw [Tr.ls_length];omega⟩
    · unfold spec_ListOfDecreasing.f
      refine Ev.bind (ev_l03Is _) (evpos (decide_eq_true h) (Ev.bind (ev_l09List t 0 (by omega) (by omega) (by omega)) (Ev.now _)))
    · unfold impl_ListOfDecreasing.f
      refine Ev.bind (ev_IsBinary _) (evpos (decide_eq_true h) ?_)
      have hn:impl_nodesOf.f (Tr.B (Tr.tx t))=some (t.size:Int):=by
        unfold impl_nodesOf.f
        rw [Tr.B_size,Tr.tx_length,Tr.wrap_id (by omega) (by omega)]
        congr 1;omega
      rw [hn]
      refine evsome (evpos (by omega) ?_)
      have e:=ev_list_w t 0 0 0 (List.replicate t.size 0) (by omega) (by omega) (by rw [List.length_replicate];omega) (by rw [List.length_replicate];omega)
      rw [Tr.wrap_id (by omega) (by omega),Int.toNat_natCast,show (t.size:Int) - 1=0+t.size - 1 by omega]
      refine Ev.bind e (evnow ?_)
      simp
  · refine ⟨([],1),?_,?_,by simp⟩
    · unfold spec_ListOfDecreasing.f
      exact Ev.bind (ev_l03Is _) (evneg (by rw [decide_eq_false h];simp) (Ev.now _))
    · unfold impl_ListOfDecreasing.f
      exact Ev.bind (ev_IsBinary _) (evneg (by rw [decide_eq_false h];simp) (Ev.now _))
theorem gt_kf:∀ (xs p:List Int) (K:List (List Int)),Gt.Kids K p→(Gt.ok xs p.length=true→∃ K',impl_GrownTree.kf xs p.length K=some K'∧Gt.Kids K' (p++xs))∧(Gt.ok xs p.length=false→impl_GrownTree.kf xs p.length K=none):=by
  intro xs
  induction xs with
  | nil=>intro p K h;exact ⟨fun _=>⟨K,rfl,by simpa using h⟩,fun h=>by cases h⟩
  | cons x xs ih =>
    intro p K h
    rw [impl_GrownTree.kf,Gt.ok]
    by_cases hx:0≤x∧x≤(p.length:Int)
    · have h2:=ih (p++[x]) _ (Gt.kids_snoc h hx.1 hx.2)
      rw [decide_eq_true hx,Bool.true_and]
      rw [if_neg (show ¬ (x<0∨x>(p.length:Int)) by omega)]
      simpa [List.append_assoc] using h2
    · rw [decide_eq_false hx,Bool.false_and]
      rw [if_pos (show x<0∨x>(p.length:Int) by omega)]
      exact ⟨fun h=>(by cases h),fun _=>rfl⟩
theorem gt_gl {q:List Int} {f:Int→List Int × List Int→Option (List Int × List Int)} {m n:Nat}:∀ (cs T G:List Int),
    (∀ c∈cs,∀ T G:List Int,G.length=n→T.length+(Gt.wd q m c).length≤1000→f c (T,G)=some (T++Gt.wd q m c,Gt.place T.length (Gt.wl q m c) G))→G.length=n→T.length+(cs.flatMap (Gt.wd q m)).length≤1000 →
    Gw.gl f cs (T,G)=some (T++cs.flatMap (Gt.wd q m),Gt.place T.length (cs.flatMap (Gt.wl q m)) G):=by
  intro cs
  induction cs with
  | nil=>intro T G _ _ _;simp [Gw.gl,Gt.place]
  | cons c cs ih =>
    intro T G hf hG hT
    rw [List.flatMap_cons,List.length_append] at hT
    rw [Gw.gl,hf c (by simp) T G hG (by omega),Option.bind_some,ih _ _ (fun y hy=>hf y (by simp [hy])) (by rw [Gt.place_len];exact hG) (by rw [List.length_append];omega),List.flatMap_cons,List.flatMap_cons,Gt.place_append,List.append_assoc,List.length_append,Gt.wd_len]
theorem gt_gw {K:List (List Int)} {q:List Int} (hq:Gt.Grows q) (hK:Gt.Kids K q) (hn:q.length≤1000):∀ (m:Nat) (l:Int) (T G:List Int),0≤l→l≤(q.length:Int)→(q.length:Int) - l<m→G.length=q.length+1→T.length+(Gt.wd q m l).length≤1000 →
    Gw.gw K m l (T,G)=some (T++Gt.wd q m l,Gt.place T.length (Gt.wl q m l) G):=by
  intro m
  induction m with
  | zero=>intro l T G h0 h1 h2 h3 h4;omega
  | succ m ih =>
    intro l T G h0 h1 h2 h3 h4
    have hk:=hK.2 l.toNat
    rw [Int.toNat_of_nonneg h0] at hk
    have hc:=Gt.ch_len_le l q 0
    have hKl:=hK.1
    rw [Gt.wd,List.length_cons] at h4
    rw [Gw.gw,hk,if_pos ⟨h0,by omega,by dsimp only;omega,by dsimp only;omega,by omega⟩]
    dsimp only
    rw [gt_gl (q:=q) (m:=m) (n:=q.length+1) _ _ _ (fun c hcm T G hG hT=>by have h5:=Gt.ch_kid hq hcm;exact ih c T G (by omega) (by omega) (by omega) hG hT) (by rw [List.length_set];exact h3) (by rw [List.length_append,List.length_singleton];omega)]
    rw [Gt.wd,Gt.wl,Gt.place,List.append_assoc,List.length_append,List.length_singleton]
    rfl
theorem ev_l09Walk_l0 (q:List Int) (l:Int) (m:Nat) (hn:q.length≤1000) (hf:∀ c∈Gt.ch q 0 l,Ev (fun k=>spec_l09Walk.f k q c) (Gt.wd q m c,Gt.wl q m c)):∀ (xs:List Int) (i c:Nat) (D L:List Int),q.drop i=xs→i+xs.length=q.length→c≤i→D.length+((Gt.ch xs i l).flatMap (Gt.wd q m)).length≤1000000000→L.length+((Gt.ch xs i l).flatMap (Gt.wl q m)).length≤1000000000→(∀ c∈Gt.ch xs i l,c∈Gt.ch q 0 l) →
    Ev (fun k=>spec_l09Walk.l0 k q l ((c:Int) :: D) L ((i+1:Nat):Int)) ((((c+(Gt.ch xs i l).length:Nat):Int)) :: (D++(Gt.ch xs i l).flatMap (Gt.wd q m)),L++(Gt.ch xs i l).flatMap (Gt.wl q m)):=by
  intro xs
  induction xs with
  | nil =>
    intro i c D L hd hi hc hD hL hs
    refine Ev_succ ?_
    simp only [spec_l09Walk.l0]
    simp only [List.length_nil] at hi
    refine evneg (by omega) (evnow ?_)
    simp [Gt.ch]
  | cons x xs ih =>
    intro i c D L hd hi hc hD hL hs
    rw [List.length_cons] at hi
    have hi2:i<q.length:=by omega
    have hx:q[i]=x∧q.drop (i+1)=xs:=by
      rw [List.drop_eq_getElem_cons hi2] at hd
      exact ⟨(List.cons.inj hd).1,(List.cons.inj hd).2⟩
    have e1:wrap64 (((i+1:Nat):Int) - 1)=(i:Int):=by rw [Tr.wrap_id (by omega) (by omega)];omega
    have e2:wrap64 (((i+1:Nat):Int)+1)=((i+1+1:Nat):Int):=by rw [Tr.wrap_id (by omega) (by omega)];omega
    refine Ev_succ ?_
    simp only [spec_l09Walk.l0,e1,e2]
    clear e1 e2
    refine evpos (by omega) (evpos (by omega) (evpos (by omega) ?_))
    rw [Tr.rd_getElem hi2,hx.1]
    rw [Gt.ch] at hD hL hs ⊢
    by_cases hxl:x=l
    · rw [if_pos hxl] at hD hL hs ⊢
      rw [List.flatMap_cons,List.length_append] at hD hL
      refine evpos hxl (evpos (by rw [List.length_cons];omega) (evsome ?_))
      have e3:((c:Int) :: D).set (0:Int).toNat (wrap64 (rd ((c:Int) :: D) 0+1))=((c+1:Nat):Int) :: D:=by
        rw [Tr.rd_cons0,Tr.wrap_succ (by omega)];rfl
      rw [e3]
      refine Ev.bind (hf _ (hs _ (List.mem_cons_self ..))) ?_
      dsimp only
      refine evpos (by rw [List.length_cons];omega) (evpos (by omega) ?_)
      rw [List.cons_append]
      have h:=ih (i+1) (c+1) (D++Gt.wd q m ((i+1:Nat):Int)) (L++Gt.wl q m ((i+1:Nat):Int)) hx.2 (by omega) (by omega) (by rw [List.length_append];omega) (by rw [List.length_append];omega) (fun c hc=>hs c (List.mem_cons_of_mem _ hc))
      rw [List.append_assoc,List.append_assoc] at h
      rw [List.length_cons,List.flatMap_cons,List.flatMap_cons,show c+((Gt.ch xs (i+1) l).length+1)=c+1+(Gt.ch xs (i+1) l).length by omega]
      exact h
    · rw [if_neg hxl] at hD hL hs ⊢
      refine evneg hxl ?_
      exact ih (i+1) c D L hx.2 (by omega) (by omega) hD hL hs
theorem ev_l09Walk (q:List Int) (hq:Gt.Grows q) (hn:q.length≤23):∀ (m:Nat) (l:Int),0≤l→l≤(q.length:Int)→(q.length:Int) - l<m→Ev (fun k=>spec_l09Walk.f k q l) (Gt.wd q m l,Gt.wl q m l):=by
  intro m
  induction m with
  | zero=>intro l h0 h1 h2;omega
  | succ m ih =>
    intro l h0 h1 h2
    refine Ev_succ ?_
    simp only [spec_l09Walk.f]
    have hl:=Gt.wl_le hq (m+1) l h0
    have hl2:2 ^ (q.length - l.toNat)≤2 ^ 23:=Nat.pow_le_pow_right (by omega) (by omega)
    have hd:=Gt.wd_len q (m+1) l
    rw [Gt.wl,List.length_cons] at hl
    rw [Gt.wd,Gt.wl,List.length_cons,List.length_cons] at hd
    have h:=ev_l09Walk_l0 q l m (by omega) (fun c hc=>by have h5:=Gt.ch_kid hq hc;exact ih c (by omega) (by omega) (by omega)) q 0 0 [] [l] rfl (by omega) (by omega) (by rw [List.length_nil];omega) (by rw [List.length_singleton];omega) (fun _ h=>h)
    simpa [Gt.wd,Gt.wl] using h
theorem ev_GrownTree_l1 (T L:List Int) (hL:L.length≤1000000):∀ (xs:List Int) (i:Nat) (G:List Int),L.drop i=xs→i+xs.length=L.length→(∀ x∈xs,0≤x∧x<(G.length:Int))→Ev (fun k=>spec_GrownTree.l1 k T L G (i:Int)) (T,Gt.place i xs G,0):=by
  intro xs
  induction xs with
  | nil =>
    intro i G hd hi h
    simp only [List.length_nil] at hi
    refine Ev_succ ?_
    simp only [spec_GrownTree.l1]
    exact evneg (by omega) (Ev.now _)
  | cons x xs ih =>
    intro i G hd hi h
    rw [List.length_cons] at hi
    have hi2:i<L.length:=by omega
    have hx:L[i]=x∧L.drop (i+1)=xs:=by
      rw [List.drop_eq_getElem_cons hi2] at hd
      exact ⟨(List.cons.inj hd).1,(List.cons.inj hd).2⟩
    have h1:=h x (List.mem_cons_self ..)
    refine Ev_succ ?_
    simp only [spec_GrownTree.l1]
    rw [Tr.rd_getElem hi2,hx.1,Tr.wrap_succ (by omega)]
    refine evpos (by omega) (evpos (by omega) (evpos (by omega) (evpos (by omega) ?_)))
    rw [Gt.place]
    exact ih (i+1) _ hx.2 (by omega) (fun y hy=>by rw [List.length_set];exact h y (List.mem_cons_of_mem _ hy))
theorem ev_spec_GrownTree_l0 (q:List Int) (hn:q.length≤23) (r:List Int × List Int × Int) (hr:Gt.ok q 0=true→Ev (fun k=>(spec_l09Walk.f k q 0).bind fun bt125=>(if 0≤(bt125.2.length:Int) then (if ((bt125.2.length:Int):Int).toNat≤35184372088832 then (spec_GrownTree.l1 k bt125.1 bt125.2 (List.replicate ((bt125.2.length:Int):Int).toNat 0) 0) else (none)) else (none))) r) (hr2:Gt.ok q 0=false→r=([],[],2)) :
    ∀ (xs:List Int) (i:Nat),q.drop i=xs→i+xs.length=q.length→Gt.ok q 0=Gt.ok xs i→Ev (fun k=>spec_GrownTree.l0 k q (i:Int)) r:=by
  intro xs
  induction xs with
  | nil =>
    intro i hd hi h
    simp only [List.length_nil] at hi
    refine Ev_succ ?_
    simp only [spec_GrownTree.l0]
    exact evneg (by omega) (hr (by rw [h];rfl))
  | cons x xs ih =>
    intro i hd hi h
    rw [List.length_cons] at hi
    have hi2:i<q.length:=by omega
    have hx:q[i]=x∧q.drop (i+1)=xs:=by
      rw [List.drop_eq_getElem_cons hi2] at hd
      exact ⟨(List.cons.inj hd).1,(List.cons.inj hd).2⟩
    refine Ev_succ ?_
    simp only [spec_GrownTree.l0]
    rw [Tr.rd_getElem hi2,hx.1,Tr.wrap_succ (by omega),l01In_eq]
    refine evpos (by omega) (evpos (by omega) (evsome ?_))
    rw [Gt.ok] at h
    by_cases hc:0≤x∧x≤(i:Int)
    · rw [decide_eq_true hc] at h ⊢
      rw [Bool.true_and] at h
      exact evpos rfl (ih (i+1) hx.2 (by omega) h)
    · rw [decide_eq_false hc] at h ⊢
      rw [Bool.false_and] at h
      rw [hr2 h]
      exact evneg (by simp) (Ev.now _)
theorem gt_ok:∀ (xs:List Int) (i:Nat),(∀ (j:Nat) (x:Int),xs[j]?=some x→0≤x∧x≤((i+j:Nat):Int))→Gt.ok xs i=true:=by
  intro xs
  induction xs with
  | nil=>intro i _;rfl
  | cons y ys ih =>
    intro i h
    have h0:=h 0 y rfl
    rw [Gt.ok,decide_eq_true (by omega),Bool.true_and]
    exact ih (i+1) (fun j x hx=>by have:=h (j+1) x (by simpa using hx);omega)
theorem ev_impl_GrownTree (l0:List Int) (hn1:l0.length≤23) (hq:Gt.Grows l0):Ev (fun k=>impl_GrownTree.f k l0) (Gt.wd l0 (l0.length+1) 0,Gt.place 0 (Gt.wl l0 (l0.length+1) 0) (List.replicate (l0.length+1) 0),0):=by
  have hk0:Gt.Kids [[]] ([]:List Int):=⟨rfl,fun j=>by cases j <;> rfl⟩
  have hkf:=gt_kf l0 [] [[]] hk0
  have hok:Gt.ok l0 0=true:=gt_ok l0 0 (fun j x hx=>by have:=hq j x hx;omega)
  have hlen:=Gt.wl_len hq (l0.length+1) (by omega)
  have hdlen:=Gt.wd_len l0 (l0.length+1) 0
  unfold impl_GrownTree.f
  refine evneg (by omega) ?_
  obtain ⟨K,h1,h2⟩:=hkf.1 hok
  rw [show impl_GrownTree.kf l0 0 [[]]=some K from h1]
  rw [List.nil_append] at h2
  refine ⟨l0.length+1,fun k hk=>?_⟩
  have hf:=Gt.fuel hq k (l0.length+1) 0 (by omega) (by omega) (by omega)
  have h3:=gt_gw hq h2 (by omega) k 0 [] (List.replicate K.length 0) (by omega) (by omega) (by omega) (by rw [List.length_replicate];exact h2.1) (by rw [hf.2,List.length_nil];omega)
  show ((Gw.gw K k 0 ([],List.replicate K.length 0)).bind fun s=>some (s.1,s.2,0))=_
  rw [h3,hf.1,hf.2,h2.1]
  rfl
theorem ev_GrownTree (l0:List Int):∃ r:List Int × List Int × Int,Ev (fun k=>spec_GrownTree.f k l0) r∧Ev (fun k=>impl_GrownTree.f k l0) r∧(r.1.length≤1000∧r.2.1.length≤1000):=by
  by_cases hn:(l0.length:Int)>23
  · refine ⟨([],[],2),?_,?_,by simp⟩
    · unfold spec_GrownTree.f;exact evpos hn (Ev.now _)
    · unfold impl_GrownTree.f;exact evpos hn (Ev.now _)
  have hn1:l0.length≤23:=by omega
  have hk0:Gt.Kids [[]] ([]:List Int):=⟨rfl,fun j=>by cases j <;> rfl⟩
  have hkf:=gt_kf l0 [] [[]] hk0
  cases hok:Gt.ok l0 0 with
  | false =>
    refine ⟨([],[],2),?_,?_,by simp⟩
    · unfold spec_GrownTree.f
      exact evneg hn (ev_spec_GrownTree_l0 l0 hn1 _ (fun h=>by rw [hok] at h;cases h) (fun _=>rfl) l0 0 rfl (by omega) rfl)
    · unfold impl_GrownTree.f
      refine evneg hn ?_
      rw [show impl_GrownTree.kf l0 0 [[]]=none from hkf.2 hok]
      exact Ev.now _
  | true =>
    have hq:=Gt.ok_grows hok
    have hlen:=Gt.wl_len hq (l0.length+1) (by omega)
    have hdlen:=Gt.wd_len l0 (l0.length+1) 0
    refine ⟨(Gt.wd l0 (l0.length+1) 0,Gt.place 0 (Gt.wl l0 (l0.length+1) 0) (List.replicate (l0.length+1) 0),0),?_,?_,?_⟩
    · unfold spec_GrownTree.f
      refine evneg hn (ev_spec_GrownTree_l0 l0 hn1 _ (fun _=>?_) (fun h=>by rw [hok] at h;cases h) l0 0 rfl (by omega) rfl)
      refine Ev.bind (ev_l09Walk l0 hq hn1 (l0.length+1) 0 (by omega) (by omega) (by omega)) ?_
      dsimp only
      rw [hlen]
      refine evpos (by omega) (evpos (by omega) ?_)
      rw [Int.toNat_natCast]
      exact ev_GrownTree_l1 _ _ (by omega) _ 0 _ rfl (by omega) (fun x hx=>by have:=Gt.wl_mem hq _ 0 x (by omega) hx;rw [List.length_replicate];omega)
    · unfold impl_GrownTree.f
      refine evneg hn ?_
      obtain ⟨K,h1,h2⟩:=hkf.1 hok
      rw [show impl_GrownTree.kf l0 0 [[]]=some K from h1]
      rw [List.nil_append] at h2
      refine ⟨l0.length+1,fun k hk=>?_⟩
      have hf:=Gt.fuel hq k (l0.length+1) 0 (by omega) (by omega) (by omega)
      have h3:=gt_gw hq h2 (by omega) k 0 [] (List.replicate K.length 0) (by omega) (by omega) (by omega) (by rw [List.length_replicate];exact h2.1) (by rw [hf.2,List.length_nil];omega)
      show ((Gw.gw K k 0 ([],List.replicate K.length 0)).bind fun s=>some (s.1,s.2,0))=_
      rw [h3,hf.1,hf.2,h2.1]
      rfl
    · dsimp only
      rw [Gt.place_len,List.length_replicate]
      omega
theorem ev_slices_Equal_l0 (xs ys:List Int) (hl:xs.length=ys.length) (hb:xs.length≤1000000):∀ (n i:Nat),i+n=xs.length→Ev (fun k=>slices_Equal_int64_int64.l0 k xs ys (xs.length:Int) (i:Int)) (decide (xs.drop i=ys.drop i)):=by
  intro n
  induction n with
  | zero =>
    intro i hi
    refine Ev_succ ?_
    simp only [slices_Equal_int64_int64.l0]
    refine evneg (by omega) (evnow ?_)
    rw [List.drop_of_length_le (by omega),List.drop_of_length_le (by omega)];rfl
  | succ n ih =>
    intro i hi
    refine Ev_succ ?_
    simp only [slices_Equal_int64_int64.l0]
    refine evpos (by omega) (evpos (by omega) (evpos (by omega) (evpos (by omega) ?_)))
    rw [Tr.rd_getElem (by omega:i<xs.length),Tr.rd_getElem (by omega:i<ys.length),Tr.wrap_succ (by omega)]
    have e3:(xs.drop i=ys.drop i)=(xs[i]=ys[i]∧xs.drop (i+1)=ys.drop (i+1)):=by
      rw [List.drop_eq_getElem_cons (by omega:i<xs.length),List.drop_eq_getElem_cons (by omega:i<ys.length)]
      exact List.cons.injEq _ _ _ _
    have e4:decide (xs.drop i=ys.drop i)=decide (xs[i]=ys[i]∧xs.drop (i+1)=ys.drop (i+1)):=by simp only [e3]
    rw [e4]
    by_cases h:xs[i]=ys[i]
    · refine evpos h ?_
      have:=ih (i+1) (by omega)
      rw [show decide (xs[i]=ys[i]∧xs.drop (i+1)=ys.drop (i+1))=decide (xs.drop (i+1)=ys.drop (i+1)) by simp only [h,true_and]]
      exact this
    · refine evneg h (evnow ?_)
      simp only [h,false_and,decide_false]
theorem ev_slices_Equal (xs ys:List Int) (hb:xs.length≤1000000):Ev (fun k=>slices_Equal_int64_int64.f k xs ys) (decide (xs=ys)):=by
  unfold slices_Equal_int64_int64.f
  by_cases h:xs.length=ys.length
  · refine evpos (by omega) ?_
    have:=ev_slices_Equal_l0 xs ys h hb xs.length 0 (by omega)
    simpa using this
  · refine evneg (by omega) (evnow ?_)
    rw [eq_comm,decide_eq_false_iff_not]
    intro e;exact h (by rw [e])
theorem cmp_Compare_eq (a b:Int):cmp_Compare_int64.f a b=some (if a<b then -1 else if a>b then 1 else 0):=by
  unfold cmp_Compare_int64.f cmp_isNaN_int64.f
  simp only [bne_self_eq_false,Option.bind_some,Bool.false_eq_true,if_false]
  split
  · rfl
  · split <;> rfl
theorem ev_slices_Compare_l0 (xs ys:List Int) (hl:xs.length=ys.length) (hb:xs.length≤1000000):∀ (n i:Nat),i+n=xs.length→∃ c:Int,Ev (fun k=>slices_Compare_int64_int64.l0 k xs ys xs (xs.length:Int) (i:Int)) c∧(c=0↔xs.drop i=ys.drop i):=by
  intro n
  induction n with
  | zero =>
    intro i hi
    refine ⟨0,Ev_succ ?_,?_⟩
    · simp only [slices_Compare_int64_int64.l0]
      exact evneg (by omega) (evneg (by omega) (Ev.now _))
    · rw [List.drop_of_length_le (by omega),List.drop_of_length_le (by omega)];simp
  | succ n ih =>
    intro i hi
    have hx:rd xs (i:Int)=xs[i]:=Tr.rd_getElem (by omega)
    have hy:rd ys (i:Int)=ys[i]:=Tr.rd_getElem (by omega)
    have e3:(xs.drop i=ys.drop i)↔(xs[i]=ys[i]∧xs.drop (i+1)=ys.drop (i+1)):=by
      rw [List.drop_eq_getElem_cons (by omega:i<xs.length),List.drop_eq_getElem_cons (by omega:i<ys.length)]
      exact List.cons_eq_cons
    obtain ⟨c,h1,h2⟩:=ih (i+1) (by omega)
    by_cases h:xs[i]=ys[i]
    · refine ⟨c,Ev_succ ?_,?_⟩
      · simp only [slices_Compare_int64_int64.l0]
        refine evpos (by omega) (evpos (by omega) (evpos (by omega) (evneg (by omega) (evpos (by omega) ?_))))
        rw [hx,hy,cmp_Compare_eq,h,if_neg (by omega),if_neg (by omega),Tr.wrap_succ (by omega)]
        exact evsome (evpos rfl h1)
      · rw [e3,h2];simp [h]
    · refine ⟨if xs[i]<ys[i] then -1 else if xs[i]>ys[i] then 1 else 0,Ev_succ ?_,?_⟩
      · simp only [slices_Compare_int64_int64.l0]
        refine evpos (by omega) (evpos (by omega) (evpos (by omega) (evneg (by omega) (evpos (by omega) ?_))))
        rw [hx,hy,cmp_Compare_eq]
        refine evsome (evneg ?_ (Ev.now _))
        split
        · omega
        · split <;> omega
      · rw [e3]
        constructor
        · intro hc
          split at hc
          · omega
          · split at hc
            · omega
            · omega
        · rintro ⟨hc,_⟩;exact absurd hc h
theorem ev_impl_compareTrees (xs ys:List Int) (hb:xs.length≤1000000) (hb2:ys.length≤1000000):∃ c:Int,Ev (fun k=>impl_compareTrees.f k xs ys) c∧(c=0↔xs=ys):=by
  have hw:wrap64 ((xs.length:Int) - (ys.length:Int))=(xs.length:Int) - (ys.length:Int):=Tr.wrap_id (by omega) (by omega)
  by_cases h:xs.length=ys.length
  · obtain ⟨c,h1,h2⟩:=ev_slices_Compare_l0 xs ys h hb xs.length 0 (by omega)
    refine ⟨c,?_,by simpa using h2⟩
    unfold impl_compareTrees.f
    rw [hw]
    refine evpos (by omega) (Ev.bind (a:=c) ?_ (Ev.now _))
    unfold slices_Compare_int64_int64.f
    exact h1
  · refine ⟨(xs.length:Int) - (ys.length:Int),?_,⟨fun hc=>absurd hc (by omega),fun hc=>absurd (congrArg List.length hc) h⟩⟩
    unfold impl_compareTrees.f
    rw [hw]
    exact evneg (by omega) (Ev.now _)
def gfn (t:Tr.F) (l:List Int):Nat→Int:=fun j=>Tr.idx (t.par 0 (-1) (rd l ((j+1:Nat):Int)).toNat) l 0
theorem gfn_at {d:List Int} {t:Tr.F} (h:Tr.Tree d t) {l:List Int} (ho:Tr.isOrd t.size l) (hg:Tr.growing t l=true) {j:Nat} (hj:j+1<t.size):(0≤rd l ((j+1:Nat):Int)∧rd l ((j+1:Nat):Int)<t.size)∧rd (Tr.parentsL t) (rd l ((j+1:Nat):Int))=t.par 0 (-1) (rd l ((j+1:Nat):Int)).toNat∧(0≤t.par 0 (-1) (rd l ((j+1:Nat):Int)).toNat∧t.par 0 (-1) (rd l ((j+1:Nat):Int)).toNat<t.size)∧rd (Tr.labels l t.size) (t.par 0 (-1) (rd l ((j+1:Nat):Int)).toNat)=gfn t l j:=by
  have G:Lg.Gro d t l (Tr.each (t.size - 1) (gfn t l)):=⟨h,ho,hg,by rw [Tr.each_len];have:=h.pos;omega,fun i hi=>by
    rw [Tr.each_len] at hi
    have h1:=Tr.each_rd (f:=gfn t l) hi
    rw [Tr.rd_getElem (by rw [Tr.each_len];exact hi)] at h1
    rw [List.getElem?_eq_getElem (by rw [Tr.each_len];exact hi),h1];rfl⟩
  obtain ⟨v,h1,h2,h3,h4,h5⟩:=G.at_ (j:=j) (by rw [Tr.each_len];omega)
  have h6:=G.below h1 h2
  unfold gfn
  rw [h3,Int.toNat_natCast]
  obtain ⟨p,hp⟩:=Int.eq_ofNat_of_zero_le h6.1
  refine ⟨by omega,Tr.each_rd h2,by omega,?_⟩
  rw [hp]
  exact Tr.each_rd (by omega)
theorem gfn_gro {d:List Int} {t:Tr.F} (h:Tr.Tree d t) {l:List Int} (ho:Tr.isOrd t.size l) (hg:Tr.growing t l=true):Lg.Gro d t l (Tr.each (t.size - 1) (gfn t l)) :=
  ⟨h,ho,hg,by rw [Tr.each_len];have:=h.pos;omega,fun i hi=>by
    rw [Tr.each_len] at hi
    have h1:=Tr.each_rd (f:=gfn t l) hi
    rw [Tr.rd_getElem (by rw [Tr.each_len];exact hi)] at h1
    rw [List.getElem?_eq_getElem (by rw [Tr.each_len];exact hi),h1];rfl⟩
theorem ev_impl_ListOfGrowth_l0 {d:List Int} {t:Tr.F} (h:Tr.Tree d t) {l:List Int} (ho:Tr.isOrd t.size l) (hg:Tr.growing t l=true):∀ (m i:Nat),i+m=t.size - 1 →
    Ev (fun k=>impl_ListOfGrowth.l0 k l (Tr.labels l t.size) (Tr.parentsL t) (Tr.each i (gfn t l)) (l.drop 1) ((l.drop 1).length:Int) (i:Int) d) (if Lg.whole t l then (Tr.each (t.size - 1) (gfn t l),0) else ([],4)):=by
  have hle:=h.le
  have hlen:=h.len
  have hpos:=h.pos
  have hll:=ho.1
  have hdl:(l.drop 1).length=t.size - 1:=by rw [List.length_drop];omega
  intro m
  induction m with
  | zero =>
    intro i hi
    have hie:i=t.size - 1:=by omega
    subst hie
    have G:=gfn_gro h ho hg
    have hql:(Tr.each (t.size - 1) (gfn t l)).length=t.size - 1:=Tr.each_len _ _
    have hwl:=Gt.wl_len G.grows ((Tr.each (t.size - 1) (gfn t l)).length+1) (by omega)
    have hdl2:=Gt.wd_len (Tr.each (t.size - 1) (gfn t l)) ((Tr.each (t.size - 1) (gfn t l)).length+1) 0
    refine Ev_succ ?_
    simp only [impl_ListOfGrowth.l0]
    refine evneg (by rw [hdl];omega) (Ev.bind (ev_impl_GrownTree _ (by omega) G.grows) ?_)
    dsimp only
    obtain ⟨c,hc1,hc2⟩:=ev_impl_compareTrees d (Gt.wd (Tr.each (t.size - 1) (gfn t l)) ((Tr.each (t.size - 1) (gfn t l)).length+1) 0) (by omega) (by omega)
    refine Ev.bind hc1 ?_
    have hm:=G.main
    generalize Gt.wd (Tr.each (t.size - 1) (gfn t l)) ((Tr.each (t.size - 1) (gfn t l)).length+1) 0=u at hc1 hc2 hm ⊢
    by_cases hu:d=u
    · refine evpos (hc2.mpr hu) (Ev.bind (ev_slices_Equal _ _ (by rw [Gt.place_len,List.length_replicate];omega)) ?_)
      generalize Gt.place 0 (Gt.wl (Tr.each (t.size - 1) (gfn t l)) ((Tr.each (t.size - 1) (gfn t l)).length+1) 0) (List.replicate ((Tr.each (t.size - 1) (gfn t l)).length+1) 0)=o at hm ⊢
      by_cases hol:o=l
      · rw [if_pos (hm.mpr ⟨hu.symm,hol⟩)]
        exact evpos (by simpa using hol) (Ev.now _)
      · rw [if_neg (fun e=>hol (hm.mp e).2)]
        exact evneg (by simpa using hol) (Ev.now _)
    · rw [if_neg (fun e=>hu (hm.mp e).1.symm)]
      exact evneg (fun e=>hu (hc2.mp e)) (Ev.now _)
  | succ m ih =>
    intro i hi
    obtain ⟨h1,h2,h3,h4⟩:=gfn_at h ho hg (j:=i) (by omega)
    have hpl:(Tr.parentsL t).length=t.size:=Tr.each_len _ _
    have hlb:(Tr.labels l t.size).length=t.size:=Tr.each_len _ _
    have hdr:rd (l.drop 1) (i:Int)=rd l ((i+1:Nat):Int):=by
      rw [Tr.rd_getElem (by rw [hdl];omega),Tr.rd_getElem (by omega),List.getElem_drop]
      congr 1;omega
    refine Ev_succ ?_
    simp only [impl_ListOfGrowth.l0]
    rw [hdr,h2,h4,hdl,hpl,hlb,Tr.wrap_succ (by omega),Tr.each_len]
    refine evpos (by omega) (evpos (by omega) (evpos (by omega) (evpos h1.1 (evpos h1.2 (evpos h3.1 (evpos h3.2 (evpos (by omega) ?_)))))))
    have:=ih (i+1) (by omega)
    rw [Tr.each_succ,hdl] at this
    exact this
theorem ev_spec_ListOfGrowth_l3 {d:List Int} {t:Tr.F} {l q:List Int} (h:Tr.Tree d t) {v:Nat} (hv:v<t.size) {r2:List Int × Int} (hr2:Ev (fun k=>spec_ListOfGrowth.l2 k (Tr.labels l t.size) q ((v+1:Nat):Int) d) r2):∀ (xs:List Int) (i:Nat),((t.sub v).roots (v+1)).drop i=xs→i+xs.length=((t.sub v).roots (v+1)).length →
    Ev (fun k=>spec_ListOfGrowth.l3 k (Tr.labels l t.size) q (v:Int) ((t.sub v).roots (v+1)) ((i+1:Nat):Int) d) (if Lg.asc (xs.map (fun c=>Tr.idx c l 0)) then r2 else ([],4)):=by
  have hle:=h.le
  have hlen:=h.len
  have hkl:((t.sub v).roots (v+1)).length≤24:=by
    rw [Tr.F.roots_len]
    have h1:=(t.sub v).len_le
    have h2:=h.fits hv
    omega
  have hlb:(Tr.labels l t.size).length=t.size:=Tr.each_len _ _
  have hC:∀ (j:Nat) (hj:j<((t.sub v).roots (v+1)).length),∃ u:Nat,((t.sub v).roots (v+1))[j]=(u:Int)∧u<t.size:=fun j hj=>by
    have h1:=h.kid_range hv (List.getElem_mem hj)
    obtain ⟨u,hu⟩:=Int.eq_ofNat_of_zero_le (show 0≤((t.sub v).roots (v+1))[j] by omega)
    exact ⟨u,hu,by omega⟩
  generalize (t.sub v).roots (v+1)=C at hkl hC ⊢
  intro xs
  induction xs with
  | nil =>
    intro i hd hi
    simp only [List.length_nil] at hi
    refine Ev_succ ?_
    simp only [spec_ListOfGrowth.l3]
    rw [Tr.wrap_succ (i:=v) (by omega)]
    exact evneg (by omega) hr2
  | cons x xs ih =>
    intro i hd hi
    rw [List.length_cons] at hi
    have hi2:i<C.length:=by omega
    have hx:C[i]=x∧C.drop (i+1)=xs:=by
      rw [List.drop_eq_getElem_cons hi2] at hd
      exact ⟨(List.cons.inj hd).1,(List.cons.inj hd).2⟩
    cases xs with
    | nil =>
      simp only [List.length_nil] at hi
      refine Ev_succ ?_
      simp only [spec_ListOfGrowth.l3]
      rw [Tr.wrap_succ (i:=v) (by omega)]
      exact evneg (by omega) hr2
    | cons y ys =>
      rw [List.length_cons] at hi
      have hi3:i+1<C.length:=by omega
      have hy:C[i+1]=y:=by
        have:=hx.2
        rw [List.drop_eq_getElem_cons hi3] at this
        exact (List.cons.inj this).1
      obtain ⟨a,ha1,ha2⟩:=hC i hi2
      obtain ⟨b,hb1,hb2⟩:=hC (i+1) hi3
      rw [hx.1] at ha1
      rw [hy] at hb1
      have e1:wrap64 (((i+1:Nat):Int) - 1)=(i:Int):=by rw [Tr.wrap_id (by omega) (by omega)];omega
      have ra:rd (Tr.labels l t.size) (a:Int)=Tr.idx (a:Int) l 0:=Tr.each_rd ha2
      have rb:rd (Tr.labels l t.size) (b:Int)=Tr.idx (b:Int) l 0:=Tr.each_rd hb2
      have h0:=ih (i+1) hx.2 (by rw [List.length_cons];omega)
      refine Ev_succ ?_
      simp only [spec_ListOfGrowth.l3,e1]
      clear e1
      rw [Tr.rd_getElem hi2,Tr.rd_getElem hi3,hx.1,hy,ha1,hb1,ra,rb,hlb,Tr.wrap_succ (by omega)]
      refine evpos (by omega) (evpos (by omega) (evpos (by omega) (evpos (by omega) (evpos (by omega) (evpos (by omega) (evpos (by omega) (evpos (by omega) ?_)))))))
      rw [List.map_cons,List.map_cons,Lg.asc]
      rw [List.map_cons,hb1] at h0
      by_cases hgt:Tr.idx (a:Int) l 0>Tr.idx (b:Int) l 0
      · rw [decide_eq_false (fun h_=>h_ hgt),Bool.false_and]
        exact evpos hgt (Ev.now _)
      · rw [decide_eq_true hgt,Bool.true_and]
        exact evneg hgt h0
theorem ev_spec_ListOfGrowth_l2 {d:List Int} {t:Tr.F} {l q:List Int} (h:Tr.Tree d t):∀ (m v:Nat),v+m=t.size →
    Ev (fun k=>spec_ListOfGrowth.l2 k (Tr.labels l t.size) q (v:Int) d) (if (List.range' v m).all (fun v=>Lg.asc (Lg.kl t l v)) then (q,0) else ([],4)):=by
  have hle:=h.le
  have hlen:=h.len
  intro m
  induction m with
  | zero =>
    intro v hv
    refine Ev_succ ?_
    simp only [spec_ListOfGrowth.l2,l01N_eq]
    exact evsome (evneg (by omega) (Ev.now _))
  | succ m ih =>
    intro v hv
    have hvs:v<t.size:=by omega
    obtain ⟨n',hn'⟩:=h.node hvs
    refine Ev_succ ?_
    simp only [spec_ListOfGrowth.l2,l01N_eq]
    refine evsome (evpos (by omega) (Ev.bind (ev_l01Children (by omega) hn') ?_))
    have h3:=ev_spec_ListOfGrowth_l3 (l:=l) (q:=q) h hvs (ih (v+1) (by omega)) ((t.sub v).roots (v+1)) 0 rfl (by omega)
    rw [List.range'_succ,List.all_cons]
    show Ev _ (if (Lg.asc (((t.sub v).roots (v+1)).map (fun c=>Tr.idx c l 0)) && _)=true then _ else _)
    cases ha:Lg.asc (((t.sub v).roots (v+1)).map (fun c=>Tr.idx c l 0)) with
    | true=>rw [ha] at h3;exact h3
    | false=>rw [ha] at h3;exact h3
theorem ev_spec_ListOfGrowth_l1 {d:List Int} {t:Tr.F} (h:Tr.Tree d t) {l:List Int} (ho:Tr.isOrd t.size l) (hg:Tr.growing t l=true):∀ (m i:Nat),i+m=t.size - 1 →
    Ev (fun k=>spec_ListOfGrowth.l1 k l (Tr.parentsL t) (Tr.labels l t.size) (Tr.each i (gfn t l)) ((i+1:Nat):Int) d) (if Lg.whole t l then (Tr.each (t.size - 1) (gfn t l),0) else ([],4)):=by
  have hle:=h.le
  have hlen:=h.len
  have hpos:=h.pos
  have hll:=ho.1
  intro m
  induction m with
  | zero =>
    intro i hi
    have hie:i=t.size - 1:=by omega
    subst hie
    refine Ev_succ ?_
    simp only [spec_ListOfGrowth.l1]
    refine evneg (by omega) ?_
    have:=ev_spec_ListOfGrowth_l2 (l:=l) (q:=Tr.each (t.size - 1) (gfn t l)) h t.size 0 (by omega)
    rw [← List.range_eq_range'] at this
    exact this
  | succ m ih =>
    intro i hi
    obtain ⟨h1,h2,h3,h4⟩:=gfn_at h ho hg (j:=i) (by omega)
    have hpl:(Tr.parentsL t).length=t.size:=Tr.each_len _ _
    have hlb:(Tr.labels l t.size).length=t.size:=Tr.each_len _ _
    refine Ev_succ ?_
    simp only [spec_ListOfGrowth.l1]
    rw [h2,h4,hpl,hlb,Tr.wrap_succ (by omega),Tr.each_len]
    refine evpos (by omega) (evpos (by omega) (evpos h1.1 (evpos h1.2 (evpos h3.1 (evpos h3.2 (evpos (by omega) ?_))))))
    have:=ih (i+1) (by omega)
    rw [Tr.each_succ] at this
    exact this
theorem ev_spec_ListOfGrowth_l0 {d:List Int} {t:Tr.F} {l:List Int} {r2:List Int × Int} (ho:Tr.isOrd t.size l) (hn:t.size≤1000) (hr2:Ev (fun k=>spec_ListOfGrowth.l1 k l (Tr.parentsL t) (Tr.labels l t.size) [] 1 d) r2):∀ (r pre out:List Int),l=pre++r→out.length=t.size→(∀ v:Nat,v<t.size→(v:Int)∈pre→rd out (v:Int)=Tr.idx (v:Int) l 0) →
    Ev (fun k=>spec_ListOfGrowth.l0 k l (Tr.parentsL t) out [] (pre.length:Int) d) r2:=by
  intro r
  induction r with
  | nil =>
    intro pre out hl hol hout
    have:=ho.1
    rw [List.append_nil] at hl
    have e:out=Tr.labels l t.size:=Tr.each_eq hol (fun v hv=>hout v hv (by rw [← hl];exact (Tr.isOrd_mem ho).mpr (by omega)))
    refine Ev_succ ?_
    simp only [spec_ListOfGrowth.l0]
    refine evneg (by rw [← hl];omega) ?_
    rw [e];exact hr2
  | cons x r ih =>
    intro pre out hl hol hout
    have hlen:=ho.1
    have hll:l.length=pre.length+(r.length+1):=by rw [hl];simp
    have e:rd l (pre.length:Int)=x:=by rw [hl,Tr.rd_app0];exact Tr.rd_cons0 _ _
    have e3:wrap64 ((pre.length:Int)+1)=((pre++[x]).length:Int):=by rw [Tr.wrap_id (by omega) (by omega)];simp
    have hx:=ho.2.2 x (by rw [hl];simp)
    have hnx:x∉pre:=by
      have:=ho.2.1
      rw [hl,List.nodup_append] at this
      intro hxa
      exact this.2.2 x hxa x (by simp) rfl
    refine Ev_succ ?_
    simp only [spec_ListOfGrowth.l0]
    refine evpos (by omega) (evpos (by omega) ?_)
    rw [e,e3]
    refine evpos (by omega) (evpos (by omega) ?_)
    refine ih (pre++[x]) _ (by rw [hl];simp) (by simpa using hol) (fun v hv hm=>?_)
    rw [Tr.rd_set (by omega) hx.1]
    by_cases hxv:x=(v:Int)
    · rw [if_pos hxv,hl,← hxv,Tr.idx_at hnx]
    · rw [if_neg hxv]
      refine hout v hv ?_
      simp only [List.mem_append,List.mem_singleton] at hm
      rcases hm with hm|hm
      · exact hm
      · exact absurd hm.symm hxv
theorem ev_ListOfGrowth (d l:List Int) (hl:l.length≤100000000):∃ r:List Int × Int,Ev (fun k=>spec_ListOfGrowth.f k d l) r∧Ev (fun k=>impl_ListOfGrowth.f k d l) r∧r.1.length≤1000:=by
  rcases Tr.isT_cases d with h|⟨t,h⟩
  · refine ⟨([],1),?_,?_,by simp⟩
    · unfold spec_ListOfGrowth.f;exact Ev.bind (ev_l09Code_bad h l) (evneg (by omega) (Ev.now _))
    · unfold impl_ListOfGrowth.f;exact Ev.bind (ev_growingCode_bad h l hl) (evneg (by omega) (Ev.now _))
  · have hle:=h.le
    have hlen:=h.len
    have hpos:=h.pos
    by_cases hc:Tr.codeG d l t=0
    · obtain ⟨ho,hg⟩:=Tr.codeG_zero.mp hc
      have ho2:=ho
      rw [hlen] at ho
      have hol:=ho.1
      refine ⟨if Lg.whole t l then (Tr.each (t.size - 1) (gfn t l),0) else ([],4),?_,?_,?_⟩
      · unfold spec_ListOfGrowth.f
        refine Ev.bind (ev_l09Code h l hl) (evpos hc (Ev.bind (ev_l01Parents h) (evpos (by omega) (evpos (by omega) ?_))))
        have h1:=ev_spec_ListOfGrowth_l1 h ho hg (t.size - 1) 0 (by omega)
        have h2:=ev_spec_ListOfGrowth_l0 (d:=d) ho (by omega) h1 l [] (List.replicate (l.length:Int).toNat 0) rfl (by simp;omega) (fun v _ hm=>absurd hm (by simp))
        exact h2
      · unfold impl_ListOfGrowth.f
        refine Ev.bind (ev_growingCode h l hl) (evpos hc (Ev.bind (ev_labelsOf ho (by omega)) (Ev.bind (ev_parentsOf h) (evpos (by omega) ?_))))
        exact ev_impl_ListOfGrowth_l0 h ho hg (t.size - 1) 0 (by omega)
      · split
        · show (Tr.each (t.size - 1) (gfn t l)).length≤1000
          rw [Tr.each_len];omega
        · simp
    · refine ⟨([],Tr.codeG d l t),?_,?_,by simp⟩
      · unfold spec_ListOfGrowth.f;exact Ev.bind (ev_l09Code h l hl) (evneg hc (Ev.now _))
      · unfold impl_ListOfGrowth.f;exact Ev.bind (ev_growingCode h l hl) (evneg hc (Ev.now _))
def Cod (C:List Int):Prop:=C.length≤1000000∧∀ x∈C,0≤x∧x≤255
theorem cod_rd {C:List Int} (h:Cod C) (i:Int):0≤rd C i∧rd C i≤255:=by
  unfold rd
  rw [List.getD_eq_getElem?_getD]
  cases hl:C[i.toNat]? with
  | none=>simp
  | some x=>simpa using h.2 x (List.mem_of_getElem? hl)
theorem next_ok {C:List Int} (hC:Cod C) {a h:Int} (ha:0≤a∧a≤(C.length:Int)) (n:Int):∃ r a' h',spec_l01Next.f C a h n=some (r,a',h')∧0≤r∧(r<n∨r=0)∧(0≤a'∧a'≤(C.length:Int)):=by
  have hl:=hC.1
  have hr:=cod_rd hC a
  have hh:=Dr.hash_in (IntKind.u64.wrap (h*6364136223846793005)+1442695040888963407)
  unfold spec_l01Next.f
  generalize Go.bits .and .u64 (IntKind.u64.wrap (IntKind.u64.wrap (h*6364136223846793005)+1442695040888963407) / 8589934592) 16777215=X at hh ⊢
  have eX:wrap64 X=X:=Tr.wrap_id (by omega) (by omega)
  rw [eX]
  by_cases h1:n<1
  · rw [if_pos h1];exact ⟨0,a,h,rfl,by omega,.inr rfl,ha⟩
  · rw [if_neg h1]
    by_cases h2:a<(C.length:Int)
    · rw [if_pos h2,if_pos ha.1,if_neg (by omega)]
      have e1:wrap64 (rd C a)=rd C a:=Tr.wrap_id (by omega) (by omega)
      have e2:wrap64 (a+1)=a+1:=Tr.wrap_id (by omega) (by omega)
      rw [e1,e2]
      clear e1 e2 eX
      rw [Tr.wrap_id (x:=X+rd C a) (by omega) (by omega)]
      have ht:=Dr.tmod_in (a:=X+rd C a) (b:=n) (by omega) (by omega)
      exact ⟨_,_,_,rfl,ht.1,.inl ht.2,by omega,by omega⟩
    · rw [if_neg h2,if_neg (by omega)]
      have ht:=Dr.tmod_in (a:=X) (b:=n) (by omega) (by omega)
      exact ⟨_,_,_,rfl,ht.1,.inl ht.2,ha⟩
theorem pick_ok {C:List Int} (hC:Cod C) {a h:Int} (ha:0≤a∧a≤(C.length:Int)) (l:List Int) (hl:1≤l.length):∃ r a' h',spec_l01Pick.f C a h l=some (r,a',h')∧r∈l∧(0≤a'∧a'≤(C.length:Int)):=by
  obtain ⟨r,a',h',h1,h2,h3,h4⟩:=next_ok hC (h:=h) ha (l.length:Int)
  unfold spec_l01Pick.f
  rw [h1,Option.bind_some]
  dsimp only
  rw [if_pos h2,if_pos (by omega)]
  exact ⟨_,_,_,rfl,Tr.rd_mem h2 (by omega),h4⟩
theorem evat {α β:Type} {g:Option α} {a:α} {f:Nat→α→Option β} {r:β} (e:g=some a) (h:Ev (fun n=>f n a) r):Ev (fun n=>g.bind (f n)) r:=by subst e;exact h
theorem ev_l01From_l0 {C:List Int} (hC:Cod C):∀ (m i:Nat) (h:Int),i+m=C.length→∃ h',Ev (fun k=>spec_l01From.l0 k C (i:Int) C 0 h) (C,0,h'):=by
  have hl:=hC.1
  intro m
  induction m with
  | zero =>
    intro i h hi
    refine ⟨h,Ev_succ ?_⟩
    simp only [spec_l01From.l0]
    exact evneg (by omega) (Ev.now _)
  | succ m ih =>
    intro i h hi
    by_cases c:(i:Int)<4096
    · obtain ⟨h',h2⟩:=ih (i+1) (IntKind.u64.wrap ((IntKind.u64.wrap ((IntKind.u64.wrap (h*1099511628211))+(IntKind.u64.wrap (rd C (i:Int)))))+233)) (by omega)
      refine ⟨h',Ev_succ ?_⟩
      simp only [spec_l01From.l0]
      rw [Tr.wrap_succ (by omega)]
      exact evpos (by omega) (evpos c (evpos (by omega) h2))
    · refine ⟨h,Ev_succ ?_⟩
      simp only [spec_l01From.l0]
      exact evpos (by omega) (evneg c (Ev.now _))
theorem ev_l01From {C:List Int} (hC:Cod C):∃ h',Ev (fun k=>spec_l01From.f k C) (C,0,h'):=by
  unfold spec_l01From.f
  exact ev_l01From_l0 hC C.length 0 _ (by omega)
theorem ev_l01Bad {C:List Int} (hC:Cod C) {a h:Int} (ha:0≤a∧a≤(C.length:Int)) (d:List Int) (hd:1≤d.length∧d.length≤24):∃ r,(r.1.length≤25∧(0≤r.2.1∧r.2.1≤(C.length:Int)))∧spec_l01Bad.f C a h d=some r:=by
  obtain ⟨n,a1,h1,e1,n0,n1,s1⟩:=next_ok hC (h:=h) ha 50
  have hc:spec_l01Copy.f d=some d:=by
    unfold spec_l01Copy.f
    rw [l01Make_eq d (by omega)];rfl
  obtain ⟨q,a2,h2,e2,q0,q1,s2⟩:=next_ok hC (h:=h1) s1 (d.length:Int)
  obtain ⟨x,a3,h3,e3,_,s3⟩:=pick_ok hC (h:=h2) s2 [(-1),0,1,2,25] (by simp)
  unfold spec_l01Bad.f
  rw [hc,Option.bind_some,e1,Option.bind_some]
  dsimp only
  by_cases c0:n=0
  · rw [if_pos c0];exact ⟨_,⟨by simp,s1⟩,rfl⟩
  rw [if_neg c0]
  by_cases c1:n=1
  · rw [if_pos c1,l01N_eq,Option.bind_some,e2,Option.bind_some]
    dsimp only
    rw [e3,Option.bind_some]
    dsimp only
    rw [if_pos q0,if_pos (by omega)]
    exact ⟨_,⟨by rw [List.length_set];omega,s3⟩,rfl⟩
  rw [if_neg c1]
  by_cases c2:n=2
  · rw [if_pos c2,if_pos (by omega)]
    exact ⟨_,⟨by rw [List.length_append,List.length_singleton];omega,s1⟩,rfl⟩
  · rw [if_neg c2];exact ⟨_,⟨by simp only;omega,s1⟩,rfl⟩
theorem ev_likeInts_l0 (xs:List Int) (hb:xs.length≤1000000):∀ (n i:Nat),i+n=xs.length→Ev (fun k=>laws_likeInts.l0 k xs xs (i:Int)) true:=by
  intro n
  induction n with
  | zero=>intro i h;refine Ev_succ ?_;simp only [laws_likeInts.l0];exact evneg (by omega) (Ev.now _)
  | succ n ih =>
    intro i h
    refine Ev_succ ?_
    simp only [laws_likeInts.l0]
    refine evpos (by omega) (evpos (by omega) (evpos (by omega) (evpos (by first|rfl|trivial) ?_)))
    rw [Tr.wrap_succ (by omega)]
    exact ih (i+1) (by omega)
theorem ev_likeInts (xs:List Int) (hb:xs.length≤1000000):Ev (fun k=>laws_likeInts.f k xs xs) true:=by
  unfold laws_likeInts.f
  exact evpos rfl (ev_likeInts_l0 xs hb xs.length 0 (by omega))
theorem ev_impl_IsGrowing {d l:List Int} {t:Tr.F} (h:Tr.Tree d t) (hl:l.length≤100000000) (ho:Tr.isOrd d.length l) (hg:Tr.growing t l=true):Ev (fun k=>impl_IsGrowing.f k d l) (true,0):=by
  unfold impl_IsGrowing.f
  refine Ev.bind (ev_orderCode d l hl) ?_
  unfold Tr.codeO
  rw [if_pos h.isT,if_pos ho]
  have:=ev_isGrowing h ho
  rw [hg] at this
  exact evpos rfl (Ev.bind this (Ev.now _))
theorem ev_DrawOfT_l1 {C:List Int} (hC:Cod C) {n:Int} {X:(List Int × Int × Int)→Prop} (deg way:List Int) (deep v:Int) (hd:deg.length≤1000) (hok:Tr.okw deg 1∧∀ x∈deg,0≤x∧x<deg.length) (hw:way.length≤1000) (hw1:1≤way.length) (hway:∀ x∈way,0≤x∧x<(deg.length:Int))
    (hfin:∀ (deg' way':List Int) (a h:Int),deg'.length=deg.length+1→(Tr.okw deg' 1∧∀ x∈deg',0≤x∧x<deg'.length)→1≤way'.length→way'.length≤way.length+1→(∀ x∈way',(0≤x∧x<(deg.length:Int))∨x=v)→(0≤a∧a≤(C.length:Int))→∃ r,X r∧Ev (fun k=>spec_l01DrawOf.l0 k n deg' way' deep (wrap64 (v+1)) C a h) r):∀ (m:Nat) (a h:Int),m<way.length→(0≤a∧a≤(C.length:Int)) →
    ∃ r,X r∧Ev (fun k=>spec_l01DrawOf.l1 k n deg way deep v (m:Int) C a h) r:=by
  have hput:∀ (m:Nat) (a h:Int),m<way.length→(0≤a∧a≤(C.length:Int))→∃ r,X r∧Ev (fun k=>(if 0≤(m:Int) then (if (m:Int)<(way.length:Int) then (if 0≤(rd way (m:Int)) then (if (rd way (m:Int))<(deg.length:Int) then ((some (deg.set ((rd way (m:Int)):Int).toNat (wrap64 ((rd deg (rd way (m:Int)))+1)):List Int)).bind fun y163=>(if 0≤(wrap64 ((m:Int)+1)) then (if (wrap64 ((m:Int)+1))≤(way.length:Int) then ((spec_l01Own.f (way.take ((wrap64 ((m:Int)+1)):Int).toNat)).bind fun t168=>(if t168.length<17592186044416 then (if y163.length<17592186044416 then (spec_l01DrawOf.l0 k n (y163++[0]) (t168++[v]) deep (wrap64 (v+1)) C a h) else (none)) else (none))) else (none)) else (none))) else (none)) else (none)) else (none)) else (none))) r:=by
    intro m a h hm ha
    have hx:=hway (rd way (m:Int)) (Tr.rd_mem (by omega) (by omega))
    obtain ⟨w,hw0⟩:=Int.eq_ofNat_of_zero_le hx.1
    have hdw:=hok.2 (rd deg (w:Int)) (Tr.rd_mem (by omega) (by omega))
    have hwr:wrap64 (rd deg (rd way (m:Int))+1)=rd deg (rd way (m:Int))+1:=by rw [hw0];exact Tr.wrap_id (by omega) (by omega)
    obtain ⟨r,h1,h2⟩:=hfin (deg.set (rd way (m:Int)).toNat (wrap64 (rd deg (rd way (m:Int))+1))++[0]) (way.take (m+1)++[v]) a h (by simp) (by
      rw [hwr,hw0,Int.toNat_natCast]
      refine ⟨Tr.okw_add deg 1 w hok.1 (by omega),fun x hx=>?_⟩
      have hl:(deg.set w (rd deg (w:Int)+1)++[0]).length=deg.length+1:=by simp
      rw [hl]
      rcases List.mem_append.mp hx with hx|hx
      · rcases List.mem_or_eq_of_mem_set hx with hx|hx
        · have:=hok.2 x hx;omega
        · omega
      · rw [List.mem_singleton] at hx;omega) (by simp) (by simp;omega) (fun x hx=>by
      rcases List.mem_append.mp hx with hx|hx
      · exact .inl (hway x (List.mem_of_mem_take hx))
      · exact .inr (by simpa using hx)) ha
    refine ⟨r,h1,?_⟩
    rw [Tr.wrap_succ (by omega),Int.toNat_natCast]
    have ho:spec_l01Own.f (way.take (m+1))=some (way.take (m+1)):=by
      unfold spec_l01Own.f
      rw [Option.bind_some,if_pos (by rw [List.length_nil,List.length_take];omega)];rfl
    rw [ho]
    exact evpos (by omega) (evpos (by omega) (evpos hx.1 (evpos hx.2 (evsome (evpos (by omega) (evpos (by omega) (evsome (evpos (by rw [List.length_take];omega) (evpos (by rw [List.length_set];omega) h2)))))))))
  intro m
  induction m with
  | zero =>
    intro a h hm ha
    obtain ⟨r,h1,h2⟩:=hput 0 a h hm ha
    refine ⟨r,h1,Ev_succ ?_⟩
    simp only [spec_l01DrawOf.l1]
    exact evneg (by omega) h2
  | succ m ih =>
    intro a h hm ha
    obtain ⟨q,a',h',e1,_,_,h2⟩:=next_ok hC (h:=h) ha deep
    by_cases hq:q=0
    · obtain ⟨r,h3,h4⟩:=ih a' h' (by omega) h2
      refine ⟨r,h3,Ev_succ ?_⟩
      simp only [spec_l01DrawOf.l1]
      refine evpos (by omega) (evat e1 (evpos hq ?_))
      rw [show wrap64 (((m+1:Nat):Int) - 1)=(m:Int) by rw [Tr.wrap_id (by omega) (by omega)];omega]
      exact h4
    · obtain ⟨r,h3,h4⟩:=hput (m+1) a' h' hm h2
      refine ⟨r,h3,Ev_succ ?_⟩
      simp only [spec_l01DrawOf.l1]
      exact evpos (by omega) (evat e1 (evneg hq h4))
theorem ev_DrawOfT_l0 {C:List Int} (hC:Cod C) {n:Nat} (hn:n≤100) {deep:Int}:∀ (m v:Nat) (deg way:List Int) (a h:Int),v+m=max n 1→deg.length=v→1≤v→(Tr.okw deg 1∧∀ x∈deg,0≤x∧x<deg.length)→1≤way.length→way.length≤v→(∀ x∈way,0≤x∧x<(v:Int))→(0≤a∧a≤(C.length:Int)) →
    ∃ r,(r.1.length=max n 1∧Tr.okw r.1 1∧(0≤r.2.1∧r.2.1≤(C.length:Int)))∧Ev (fun k=>spec_l01DrawOf.l0 k (n:Int) deg way deep (v:Int) C a h) r:=by
  intro m
  induction m with
  | zero =>
    intro v deg way a h hv hd h1 hok hw1 hw hway ha
    refine ⟨(deg,a,h),⟨by simp only;omega,hok.1,ha⟩,Ev_succ ?_⟩
    simp only [spec_l01DrawOf.l0]
    exact evneg (by omega) (Ev.now _)
  | succ m ih =>
    intro v deg way a h hv hd h1 hok hw1 hw hway ha
    obtain ⟨r,h2,h3⟩:=ev_DrawOfT_l1 hC (n:=(n:Int)) (X:=fun r=>r.1.length=max n 1∧Tr.okw r.1 1∧(0≤r.2.1∧r.2.1≤(C.length:Int))) deg way deep (v:Int) (by omega) hok (by omega) hw1 (by rw [hd];exact hway) (fun deg' way' a' h' l1 lo l2 l3 l4 l5=>by
      rw [Tr.wrap_succ (by omega)]
      exact ih (v+1) deg' way' a' h' (by omega) (by omega) (by omega) lo l2 (by omega) (fun x hx=>by rcases l4 x hx with q|q <;> omega) l5) (way.length - 1) a h (by omega) ha
    refine ⟨r,h2,Ev_succ ?_⟩
    simp only [spec_l01DrawOf.l0]
    refine evpos (by omega) ?_
    rw [show wrap64 ((way.length:Int) - 1)=((way.length - 1:Nat):Int) by rw [Tr.wrap_id (by omega) (by omega)];omega]
    exact h3
theorem ev_DrawOfT {C:List Int} (hC:Cod C) {a h:Int} (ha:0≤a∧a≤(C.length:Int)) (n:Nat) (h1:1≤n) (hn:n≤24):∃ (d:List Int) (t:Tr.F) (a' h':Int),Tr.Tree d t∧d.length=n∧(0≤a'∧a'≤(C.length:Int))∧Ev (fun k=>spec_l01DrawOf.f k C a h (n:Int)) (d,a',h'):=by
  obtain ⟨dp,a',h',e1,_,h2⟩:=pick_ok hC (h:=h) ha [1,2,4,30] (by simp)
  obtain ⟨⟨d,a2,h3⟩,⟨l1,l2,l3⟩,h4⟩:=ev_DrawOfT_l0 hC (n:=n) (by omega) (deep:=dp) (max n 1 - 1) 1 [0] [0] a' h' (by omega) rfl (by omega) ⟨by simp [Tr.okw],by simp⟩ (by simp) (by simp) (by simp) h2
  have l1':d.length=max n 1:=l1
  obtain ⟨t,ht⟩:=Tr.okw_tree l2 (by show d.length≤24;omega)
  refine ⟨d,t,a2,h3,ht,by omega,l3,?_⟩
  unfold spec_l01DrawOf.f
  rw [e1]
  exact evsome h4
theorem ev_DrawOrder_l0 {C:List Int} (hC:Cod C) {n:Nat} (hn:n≤1000):∀ (m v:Nat) (L:List Int) (a h:Int),v+m=n→L.length=v→(0≤a∧a≤(C.length:Int)) →
    ∃ (r:List Int) (a' h':Int),r.length=n∧(0≤a'∧a'≤(C.length:Int))∧Ev (fun k=>spec_l01DrawOrder.l0 k (n:Int) L (v:Int) C a h) (r,a',h'):=by
  intro m
  induction m with
  | zero =>
    intro v L a h hv hL ha
    refine ⟨L,a,h,by omega,ha,Ev_succ ?_⟩
    simp only [spec_l01DrawOrder.l0]
    exact evneg (by omega) (Ev.now _)
  | succ m ih =>
    intro v L a h hv hL ha
    obtain ⟨q,a1,h1,e1,q0,q1,s1⟩:=next_ok hC (h:=h) ha ((v:Int)+1)
    obtain ⟨j,hj⟩:=Int.eq_ofNat_of_zero_le q0
    obtain ⟨r,a2,h2,l1,l2,h3⟩:=ih (v+1) (L.take j++[(v:Int)]++L.drop j) a1 h1 (by omega) (by simp;omega) s1
    refine ⟨r,a2,h2,l1,l2,Ev_succ ?_⟩
    simp only [spec_l01DrawOrder.l0]
    rw [Tr.wrap_succ (by omega)]
    rw [← Int.natCast_succ] at e1
    refine evpos (by omega) (evat e1 (evpos (by omega) (evpos (by omega) ?_)))
    rw [hj,Int.toNat_natCast]
    have ho:spec_l01Own.f (L.take j)=some (L.take j):=by
      unfold spec_l01Own.f
      rw [Option.bind_some,if_pos (by rw [List.length_nil,List.length_take];omega)];rfl
    rw [ho]
    exact evsome (evsome (evpos (by simp;omega) (evsome (evsome (evpos (by simp;omega) h3)))))
theorem ev_DrawOrder {C:List Int} (hC:Cod C) {a h:Int} (ha:0≤a∧a≤(C.length:Int)) (n:Nat) (hn:n≤1000):∃ (r:List Int) (a' h':Int),r.length=n∧(0≤a'∧a'≤(C.length:Int))∧Ev (fun k=>spec_l01DrawOrder.f k C a h (n:Int)) (r,a',h'):=by
  unfold spec_l01DrawOrder.f
  exact ev_DrawOrder_l0 hC hn n 0 [] a h (by omega) rfl ha
theorem ev_DrawDecreasingTree {C:List Int} (hC:Cod C):∃ l,l.length≤25∧Ev (fun k=>spec_DrawDecreasingTree.f k C) l:=by
  obtain ⟨h0,e0⟩:=ev_l01From hC
  obtain ⟨n,a1,h1,e1,n1,s1⟩:=pick_ok hC (h:=h0) (a:=0) ⟨by omega,by omega⟩ [5,10,24] (by simp)
  have hn:5≤n∧n≤24:=by
    simp only [List.mem_cons,List.mem_nil_iff,or_false] at n1
    omega
  obtain ⟨m,a2,h2,e2,m0,m1,s2⟩:=next_ok hC (h:=h1) s1 n
  obtain ⟨j,hj⟩:=Int.eq_ofNat_of_zero_le m0
  obtain ⟨L,a3,h3,l1,s3,e3⟩:=ev_DrawOrder hC (h:=h2) s2 j (by omega)
  obtain ⟨q,a4,h4,e4,_,_,s4⟩:=next_ok hC (h:=h3) s3 10
  rw [← hj] at e3
  by_cases c0:q=0
  · refine ⟨L++[0],by simp;omega,?_⟩
    unfold spec_DrawDecreasingTree.f
    exact Ev.bind e0 (evat e1 (evat e2 (Ev.bind e3 (evat e4 (evpos c0 (evpos (by simp only;omega) (Ev.now _)))))))
  by_cases c1:q=1
  · by_cases c2:(L.length:Int)>0
    · obtain ⟨p,a5,h5,e5,_,_⟩:=pick_ok hC (h:=h4) s4 [(-4611686018427387904),4611686018427387904,30] (by simp)
      refine ⟨L.set 0 p,by simp;omega,?_⟩
      unfold spec_DrawDecreasingTree.f
      exact Ev.bind e0 (evat e1 (evat e2 (Ev.bind e3 (evat e4 (evneg c0 (evpos c1 (evpos c2 (evat e5 (evpos (by simp only;omega) (Ev.now _))))))))))
    · refine ⟨L,by omega,?_⟩
      unfold spec_DrawDecreasingTree.f
      exact Ev.bind e0 (evat e1 (evat e2 (Ev.bind e3 (evat e4 (evneg c0 (evpos c1 (evneg c2 (Ev.now _))))))))
  · refine ⟨L,by omega,?_⟩
    unfold spec_DrawDecreasingTree.f
    exact Ev.bind e0 (evat e1 (evat e2 (Ev.bind e3 (evat e4 (evneg c0 (evneg c1 (Ev.now _)))))))
theorem ev_DrawGrownTree_l0 {C:List Int} (hC:Cod C):∀ (m:Nat) (L:List Int) (a h:Int),L.length+m≤100→(0≤a∧a≤(C.length:Int)) →
    ∃ r:List Int,r.length≤100∧Ev (fun k=>spec_DrawGrownTree.l0 k L (m:Int) C a h) r:=by
  have hj:∀ (L:List Int) (b:Bool) (a h:Int),1≤L.length∨b=false→L.length≤100→(0≤a∧a≤(C.length:Int))→∃ r:List Int,r.length≤100∧Ev (fun k=>spec_DrawGrownTree.j1 k L b C a h) r:=by
    intro L b a h hb hL ha
    cases b with
    | false =>
      refine ⟨L,hL,Ev_succ ?_⟩
      simp only [spec_DrawGrownTree.j1]
      exact evneg (by simp) (Ev.now _)
    | true =>
      have h1:1≤L.length:=by rcases hb with h|h;exact h;cases h
      obtain ⟨q,a1,h1',e1,q0,q1,s1⟩:=next_ok hC (h:=h) ha (L.length:Int)
      obtain ⟨p,a2,h2,e2,_,_⟩:=pick_ok hC (h:=h1') s1 [(-1),24,3] (by simp)
      refine ⟨L.set q.toNat p,by simpa using hL,Ev_succ ?_⟩
      simp only [spec_DrawGrownTree.j1]
      exact evpos trivial (evat e1 (evat e2 (evpos q0 (evpos (by simp only;omega) (Ev.now _)))))
  intro m
  induction m with
  | zero =>
    intro L a h hL ha
    by_cases c:(L.length:Int)>0
    · obtain ⟨q,a1,h1,e1,_,_,s1⟩:=next_ok hC (h:=h) ha 10
      obtain ⟨r,l1,h2⟩:=hj L (q == 0) a1 h1 (.inl (by omega)) (by omega) s1
      refine ⟨r,l1,Ev_succ ?_⟩
      simp only [spec_DrawGrownTree.l0]
      exact evneg (by omega) (evpos c (evat e1 h2))
    · obtain ⟨r,l1,h2⟩:=hj L false a h (.inr rfl) (by omega) ha
      refine ⟨r,l1,Ev_succ ?_⟩
      simp only [spec_DrawGrownTree.l0]
      exact evneg (by omega) (evneg c h2)
  | succ m ih =>
    intro L a h hL ha
    obtain ⟨q,a1,h1,e1,_,_,s1⟩:=next_ok hC (h:=h) ha ((L.length:Int)+1)
    obtain ⟨r,l1,h2⟩:=ih (L++[q]) a1 h1 (by simp;omega) s1
    refine ⟨r,l1,Ev_succ ?_⟩
    simp only [spec_DrawGrownTree.l0]
    rw [Tr.wrap_id (x:=(L.length:Int)+1) (by omega) (by omega),show wrap64 (((m+1:Nat):Int) - 1)=(m:Int) by rw [Tr.wrap_id (by omega) (by omega)];omega]
    exact evpos (by omega) (evat e1 (evpos (by omega) h2))
theorem ev_DrawGrownTree {C:List Int} (hC:Cod C):∃ l,l.length≤100∧Ev (fun k=>spec_DrawGrownTree.f k C) l:=by
  obtain ⟨h0,e0⟩:=ev_l01From hC
  obtain ⟨n,a1,h1,e1,n1,s1⟩:=pick_ok hC (h:=h0) (a:=0) ⟨by omega,by omega⟩ [5,12,24] (by simp)
  have hn:5≤n∧n≤24:=by
    simp only [List.mem_cons,List.mem_nil_iff,or_false] at n1
    omega
  obtain ⟨m,a2,h2,e2,m0,m1,s2⟩:=next_ok hC (h:=h1) s1 n
  obtain ⟨j,hj⟩:=Int.eq_ofNat_of_zero_le m0
  obtain ⟨L,l1,h3⟩:=ev_DrawGrownTree_l0 hC j [] a2 h2 (by simp;omega) s2
  refine ⟨L,l1,?_⟩
  unfold spec_DrawGrownTree.f
  refine Ev.bind e0 (evat e1 (evat e2 ?_))
  dsimp only
  rw [hj]
  exact h3
theorem ev_uniq {α:Type} {g:Nat→Option α} {a b:α} (h1:Ev g a) (h2:Ev g b):a=b:=by
  obtain ⟨k1,q1⟩:=h1
  obtain ⟨k2,q2⟩:=h2
  have e1:=q1 (max k1 k2) (by omega)
  have e2:=q2 (max k1 k2) (by omega)
  rw [e1] at e2
  exact Option.some.inj e2
theorem ev_l03Binary {d:List Int} (hd:d.length≤1000):∀ (g:Tr.F) (q:Nat),Tr.Pl d q g→Ev (fun k=>spec_l03Binary.f k d (g.roots q)) (Tr.B (Tr.tx g)):=by
  intro g
  induction g with
  | nil =>
    intro q hq
    refine Ev_succ ?_
    simp only [spec_l03Binary.f,Tr.F.roots]
    exact evpos (by simp) (Ev.now _)
  | cons b n hb hn =>
    intro q hq
    have hl:=hq.le
    simp only [Tr.F.size] at hl
    have htb:=Tr.tx_length b
    have htn:=Tr.tx_length n
    refine Ev_succ ?_
    simp only [spec_l03Binary.f,Tr.F.roots,Tr.rd_cons0]
    refine evneg (by simp only [List.length_cons];omega) (evpos (by simp only [List.length_cons];omega) (Ev.bind (ev_l01Children hd hq) (Ev.bind (hb (q+1) hq.below) (evpos (by rw [Tr.B_size];omega) (evpos (by simp only [List.length_cons];omega) (Ev.bind (a:=Tr.B (Tr.tx n)) (by simpa using hn _ hq.next) (evpos ?_ (evnow ?_))))))))
    · rw [show ((⟨#[49]⟩:ByteArray))=Tr.B [49] from rfl,Tr.B_cat,Tr.B_size,Tr.B_size];simp;omega
    · rw [show ((⟨#[49]⟩:ByteArray))=Tr.B [49] from rfl,Tr.B_cat,Tr.B_cat];simp [Tr.tx]
theorem ev_l03Mirror:∀ (t:Tr.F),t.size≤400→Ev (fun k=>spec_l03Mirror.f k (Tr.B (Tr.tx t))) (Tr.B (Tr.tx (Tr.mirb t))):=by
  intro t
  induction t with
  | nil =>
    intro h
    refine Ev_succ ?_
    simp only [spec_l03Mirror.f]
    exact evpos (by rw [Tr.B_toList];rfl) (Ev.now _)
  | cons l r ihl ihr =>
    intro h
    simp only [Tr.F.size] at h
    have h1:=Tr.tx_length (Tr.mirb l)
    have h2:=Tr.tx_length (Tr.mirb r)
    rw [Tr.mirb_size] at h1 h2
    refine Ev_succ ?_
    simp only [spec_l03Mirror.f]
    refine evneg (by rw [Tr.B_toList];exact Tr.tx_ne l r) (Ev.bind (ev_l03Sides l r (by omega)) (Ev.bind (ihr (by omega)) (evpos (by rw [Tr.B_size];omega) (Ev.bind (ihl (by omega)) (evpos ?_ (evnow ?_))))))
    · rw [show ((⟨#[49]⟩:ByteArray))=Tr.B [49] from rfl,Tr.B_cat,Tr.B_size,Tr.B_size];simp;omega
    · rw [show ((⟨#[49]⟩:ByteArray))=Tr.B [49] from rfl,Tr.B_cat,Tr.B_cat];simp [Tr.tx,Tr.mirb]
theorem ev_l03DrawOf {C:List Int} (hC:Cod C) {a h:Int} (ha:0≤a∧a≤(C.length:Int)) (n:Nat) (hn:n≤23):∃ (L:List UInt8) (a' h':Int),1≤L.length∧L.length≤100∧(0≤a'∧a'≤(C.length:Int))∧Ev (fun k=>spec_l03DrawOf.f k C a h (n:Int)) (Tr.B L,a',h'):=by
  obtain ⟨d,t,a1,h1,ht,hd,s1,e1⟩:=ev_DrawOfT hC (h:=h) ha (n+1) (by omega) (by omega)
  obtain ⟨b,rfl⟩:=ht.one
  have hp:=ht.pl
  have hb:b.size=n:=by have:=ht.len;simp only [Tr.F.size] at this;omega
  have htb:=Tr.tx_length b
  obtain ⟨q,a2,h2,e2,_,_,s2⟩:=next_ok hC (h:=h1) s1 2
  have hW:wrap64 ((n:Int)+1)=((n+1:Nat):Int):=by rw [Tr.wrap_id (by omega) (by omega)];omega
  have hB:=ev_l03Binary (d:=d) (by omega) b 1 hp.below
  by_cases c:q=0
  · have htm:=Tr.tx_length (Tr.mirb b)
    rw [Tr.mirb_size] at htm
    refine ⟨Tr.tx (Tr.mirb b),a2,h2,by omega,by omega,s2,?_⟩
    unfold spec_l03DrawOf.f
    rw [hW]
    exact Ev.bind e1 (Ev.bind (ev_l01Children (d:=d) (by omega) (p:=0) hp) (Ev.bind hB (evat e2 (evpos c (Ev.bind (ev_l03Mirror b (by omega)) (Ev.now _))))))
  · refine ⟨Tr.tx b,a2,h2,by omega,by omega,s2,?_⟩
    unfold spec_l03DrawOf.f
    rw [hW]
    exact Ev.bind e1 (Ev.bind (ev_l01Children (d:=d) (by omega) (p:=0) hp) (Ev.bind hB (evat e2 (evneg c (Ev.now _)))))
theorem ev_l03Draw {C:List Int} (hC:Cod C) {a h:Int} (ha:0≤a∧a≤(C.length:Int)):∃ (L:List UInt8) (a' h':Int),1≤L.length∧L.length≤100∧(0≤a'∧a'≤(C.length:Int))∧Ev (fun k=>spec_l03Draw.f k C a h) (Tr.B L,a',h'):=by
  obtain ⟨n,a1,h1,e1,n1,s1⟩:=pick_ok hC (h:=h) ha [5,9,24] (by simp)
  have hn:5≤n∧n≤24:=by
    simp only [List.mem_cons,List.mem_nil_iff,or_false] at n1
    omega
  obtain ⟨m,a2,h2,e2,m0,m1,s2⟩:=next_ok hC (h:=h1) s1 n
  obtain ⟨j,hj⟩:=Int.eq_ofNat_of_zero_le m0
  obtain ⟨L,a3,h3,l1,l2,s3,e3⟩:=ev_l03DrawOf hC (h:=h2) s2 j (by omega)
  refine ⟨L,a3,h3,l1,l2,s3,?_⟩
  unfold spec_l03Draw.f
  refine evat e1 (evat e2 ?_)
  dsimp only
  rw [hj]
  exact Ev.bind e3 (Ev.now _)
theorem ev_l03Bad {C:List Int} (hC:Cod C) {a h:Int} (ha:0≤a∧a≤(C.length:Int)) (L:List UInt8) (h1:1≤L.length) (h2:L.length≤100):∃ r,spec_l03Bad.f C a h (Tr.B L)=some r:=by
  obtain ⟨q,a1,h',e1,_,_,s1⟩:=next_ok hC (h:=h) ha 40
  unfold spec_l03Bad.f
  rw [e1,Option.bind_some]
  dsimp only
  have hs:(Tr.B L).size=L.length:=Tr.B_size L
  by_cases c0:q=0
  · rw [if_pos c0,if_pos (by omega)];exact ⟨_,rfl⟩
  rw [if_neg c0]
  by_cases c1:q=1
  · rw [if_pos c1,if_pos (by omega)];exact ⟨_,rfl⟩
  rw [if_neg c1]
  by_cases c2:q=2
  · rw [if_pos c2];exact ⟨_,rfl⟩
  rw [if_neg c2]
  by_cases c3:q=3
  · rw [if_pos c3,if_pos (by omega)];exact ⟨_,rfl⟩
  · rw [if_neg c3];exact ⟨_,rfl⟩
theorem ev_DrawListOfDecreasing {C:List Int} (hC:Cod C):∃ s,Ev (fun k=>spec_DrawListOfDecreasing.f k C) s:=by
  obtain ⟨h0,e0⟩:=ev_l01From hC
  obtain ⟨L,a1,h1,l1,l2,s1,e1⟩:=ev_l03Draw hC (h:=h0) (a:=0) ⟨by omega,by omega⟩
  obtain ⟨r,e2⟩:=ev_l03Bad hC (h:=h1) s1 L l1 l2
  refine ⟨r.1,?_⟩
  unfold spec_DrawListOfDecreasing.f spec_l03Spoil.f
  exact Ev.bind (Ev.bind e0 (Ev.bind e1 (evat e2 (Ev.now _)))) (Ev.now _)
theorem ev_l09FillLast {d:List Int} {t:Tr.F} (h:Tr.Tree d t):∀ (m v:Nat) (beg:List Int),v+m=t.size→beg.length=v→(∀ c∈beg,0≤c∧c<t.size) →
    ∃ r:List Int,Ev (fun k=>spec_l09Fill.l0 k false beg d) r∧r.length=t.size:=by
  have hle:=h.le
  have hlen:=h.len
  intro m
  induction m with
  | zero =>
    intro v beg hv hb _
    refine ⟨beg,Ev_succ ?_,by omega⟩
    simp only [spec_l09Fill.l0,l01N_eq]
    exact evsome (evneg (by omega) (Ev.now _))
  | succ m ih =>
    intro v beg hv hb hc
    have hpos:=Tr.nxt_pos h (beg:=beg) (by omega)
    have hmem:rd (Tr.nxt t beg) (((Tr.nxt t beg).length:Int) - 1)∈Tr.nxt t beg:=Tr.rd_mem (by omega) (by omega)
    have hnl:(Tr.nxt t beg).length≤t.size:=Tr.nxtTo_len t beg t.size
    obtain ⟨u,hu,hus,_⟩:=Tr.nxt_mem.1 hmem
    obtain ⟨r,h1,h3⟩:=ih (v+1) (beg++[rd (Tr.nxt t beg) (((Tr.nxt t beg).length:Int) - 1)]) (by omega) (by simp;omega) (fun c hc'=>by
      simp only [List.mem_append,List.mem_singleton] at hc'
      rcases hc' with hc'|rfl
      · exact hc c hc'
      · rw [hu];omega)
    clear hu hmem
    have hn1:=ev_l09Next h hc (by omega)
    generalize Tr.nxt t beg=L at hpos hnl h1 hn1
    refine ⟨r,Ev_succ ?_,h3⟩
    simp only [spec_l09Fill.l0,l01N_eq]
    refine evsome (evpos (by omega) (Ev.bind hn1 (evneg (by simp) ?_)))
    rw [Tr.wrap_id (by omega) (by omega)]
    exact evpos (by omega) (evpos (by omega) (evpos (by omega) h1))
theorem ev_l09Draw_l0 {C:List Int} (hC:Cod C) {d:List Int} {t:Tr.F} (ht:Tr.Tree d t):∀ (m:Nat) (beg:List Int) (a h:Int),beg.length+m=t.size→(∀ c∈beg,0≤c∧c<t.size)→(0≤a∧a≤(C.length:Int)) →
    ∃ (o:List Int) (a' h':Int),o.length=t.size∧(0≤a'∧a'≤(C.length:Int))∧Ev (fun k=>spec_l09Draw.l0 k beg C a h d) (d,o,a',h'):=by
  have hle:=ht.le
  have hlen:=ht.len
  intro m
  induction m with
  | zero =>
    intro beg a h hb hc ha
    obtain ⟨q,a1,h1,e1,_,_,s1⟩:=next_ok hC (h:=h) ha 6
    by_cases c0:q=0
    · refine ⟨Tr.upto t.size,a1,h1,by simp [Tr.upto,Tr.each_len],s1,Ev_succ ?_⟩
      simp only [spec_l09Draw.l0,l01N_eq]
      exact evsome (evneg (by omega) (evat e1 (evpos c0 (Ev.bind (ev_l09Fill_all ht) (Ev.now _)))))
    by_cases c1:q=1
    · obtain ⟨r,h2,h3⟩:=ev_l09FillLast ht t.size 0 [] (by omega) rfl (by simp)
      refine ⟨r,a1,h1,h3,s1,Ev_succ ?_⟩
      simp only [spec_l09Draw.l0,l01N_eq]
      have hF:Ev (fun k=>spec_l09Fill.f k d [] false) r:=by
        unfold spec_l09Fill.f
        rw [l01Own_eq [] (by simp)]
        exact evsome h2
      exact evsome (evneg (by omega) (evat e1 (evneg c0 (evpos c1 (Ev.bind hF (Ev.now _))))))
    · refine ⟨beg,a1,h1,by omega,s1,Ev_succ ?_⟩
      simp only [spec_l09Draw.l0,l01N_eq]
      exact evsome (evneg (by omega) (evat e1 (evneg c0 (evneg c1 (Ev.now _)))))
  | succ m ih =>
    intro beg a h hb hc ha
    have hpos:=Tr.nxt_pos ht (beg:=beg) (by omega)
    have hnl:(Tr.nxt t beg).length≤t.size:=Tr.nxtTo_len t beg t.size
    obtain ⟨q,a1,h1,e1,q0,q1,s1⟩:=next_ok hC (h:=h) ha ((Tr.nxt t beg).length:Int)
    have hmem:rd (Tr.nxt t beg) q∈Tr.nxt t beg:=Tr.rd_mem q0 (by omega)
    obtain ⟨u,hu,hus,_⟩:=Tr.nxt_mem.1 hmem
    obtain ⟨o,a2,h2,l1,l2,h3⟩:=ih (beg++[rd (Tr.nxt t beg) q]) a1 h1 (by simp;omega) (fun c hc'=>by
      simp only [List.mem_append,List.mem_singleton] at hc'
      rcases hc' with hc'|rfl
      · exact hc c hc'
      · rw [hu];omega) s1
    have hn1:=ev_l09Next ht hc (by omega)
    refine ⟨o,a2,h2,l1,l2,Ev_succ ?_⟩
    simp only [spec_l09Draw.l0,l01N_eq]
    exact evsome (evpos (by omega) (Ev.bind hn1 (evat e1 (evpos q0 (evpos (by simp only;omega) (evpos (by omega) h3))))))
theorem ev_l09Draw {C:List Int} (hC:Cod C) {a h:Int} (ha:0≤a∧a≤(C.length:Int)):∃ (d o:List Int) (t:Tr.F) (a' h':Int),Tr.Tree d t∧o.length=t.size∧(0≤a'∧a'≤(C.length:Int))∧Ev (fun k=>spec_l09Draw.f k C a h) (d,o,a',h'):=by
  obtain ⟨n,a1,h1,e1,n1,s1⟩:=pick_ok hC (h:=h) ha [5,9,14,24] (by simp)
  have hn:5≤n∧n≤24:=by
    simp only [List.mem_cons,List.mem_nil_iff,or_false] at n1
    omega
  obtain ⟨m,a2,h2,e2,m0,m1,s2⟩:=next_ok hC (h:=h1) s1 n
  obtain ⟨j,hj⟩:=Int.eq_ofNat_of_zero_le m0
  obtain ⟨d,t,a3,h3,ht,hd,s3,e3⟩:=ev_DrawOfT hC (h:=h2) s2 (j+1) (by omega) (by omega)
  obtain ⟨o,a4,h4,l1,s4,e4⟩:=ev_l09Draw_l0 hC ht t.size [] a3 h3 (by simp) (by simp) s3
  refine ⟨d,o,t,a4,h4,ht,l1,s4,?_⟩
  unfold spec_l09Draw.f
  refine evat e1 (evat e2 ?_)
  dsimp only
  rw [show wrap64 (1+m)=((j+1:Nat):Int) by rw [Tr.wrap_id (by omega) (by omega)];omega]
  exact Ev.bind e3 e4
theorem ev_l09Given {C:List Int} (hC:Cod C):∃ (d o:List Int),o.length≤1000∧Ev (fun k=>spec_l09Given.f k C) (d,o):=by
  obtain ⟨h0,e0⟩:=ev_l01From hC
  obtain ⟨d,o,t,a1,h1,ht,lo,s1,e1⟩:=ev_l09Draw hC (h:=h0) (a:=0) ⟨by omega,by omega⟩
  have hle:=ht.le
  have hlen:=ht.len
  have hpos:=ht.pos
  obtain ⟨q,a2,h2,e2,_,_,s2⟩:=next_ok hC (h:=h1) s1 16
  by_cases c0:q=0
  · obtain ⟨r,_,e3⟩:=ev_l01Bad hC (h:=h2) s2 d (by omega)
    refine ⟨r.1,o++[0],by simp;omega,?_⟩
    unfold spec_l09Given.f
    exact Ev.bind e0 (Ev.bind e1 (evat e2 (evpos c0 (evpos (by simp only;omega) (evat e3 (Ev.now _))))))
  by_cases c1:q=1
  · obtain ⟨w,a3,h3,l1,s3,e3⟩:=ev_DrawOrder hC (h:=h2) s2 d.length (by omega)
    obtain ⟨r,_,e4⟩:=ev_l01Bad hC (h:=h3) s3 d (by omega)
    refine ⟨r.1,w,by omega,?_⟩
    unfold spec_l09Given.f
    refine Ev.bind e0 (Ev.bind e1 (evat e2 (evneg c0 (evpos c1 ?_))))
    dsimp only
    rw [l01N_eq]
    exact evsome (Ev.bind e3 (evat e4 (Ev.now _)))
  by_cases c2:q=2
  · obtain ⟨p,a3,h3,e3,_,s3⟩:=pick_ok hC (h:=h2) s2 [(-1),(d.length:Int),1] (by simp)
    obtain ⟨r,_,e4⟩:=ev_l01Bad hC (h:=h3) s3 d (by omega)
    refine ⟨r.1,o.set 0 p,by simp;omega,?_⟩
    unfold spec_l09Given.f
    refine Ev.bind e0 (Ev.bind e1 (evat e2 (evneg c0 (evneg c1 (evpos c2 ?_)))))
    dsimp only
    rw [l01N_eq]
    exact evsome (evat e3 (evpos (by omega) (evat e4 (Ev.now _))))
  · obtain ⟨r,_,e3⟩:=ev_l01Bad hC (h:=h2) s2 d (by omega)
    refine ⟨r.1,o,by omega,?_⟩
    unfold spec_l09Given.f
    exact Ev.bind e0 (Ev.bind e1 (evat e2 (evneg c0 (evneg c1 (evneg c2 (evat e3 (Ev.now _)))))))
theorem ev_DrawListOfGrowth {C:List Int} (hC:Cod C):∃ (d o:List Int),o.length≤1000∧Ev (fun k=>spec_DrawListOfGrowth.f k C) (d,o):=by
  obtain ⟨h0,e0⟩:=ev_l01From hC
  obtain ⟨q,a1,h1,e1,_,_,s1⟩:=next_ok hC (h:=h0) (a:=0) ⟨by omega,by omega⟩ 2
  by_cases c0:q=0
  · obtain ⟨d,o,l1,e2⟩:=ev_l09Given hC
    refine ⟨d,o,l1,?_⟩
    unfold spec_DrawListOfGrowth.f
    exact Ev.bind e0 (evat e1 (evpos c0 (Ev.bind e2 (Ev.now _))))
  · obtain ⟨l,l1,e2⟩:=ev_DrawGrownTree hC
    obtain ⟨r,r1,r2,r3⟩:=ev_GrownTree l
    by_cases c:(r.2.1.length:Int)=0
    · obtain ⟨d,o,t,a2,h2,ht,lo,s2,e3⟩:=ev_l09Draw hC (h:=h1) s1
      have:=ht.le
      have:=ht.len
      refine ⟨d,o,by omega,?_⟩
      unfold spec_DrawListOfGrowth.f
      exact Ev.bind e0 (evat e1 (evneg c0 (Ev.bind e2 (Ev.bind r1 (evpos c (Ev.bind e3 (Ev.now _)))))))
    · refine ⟨r.1,r.2.1,r3.2,?_⟩
      unfold spec_DrawListOfGrowth.f
      exact Ev.bind e0 (evat e1 (evneg c0 (Ev.bind e2 (Ev.bind r1 (evneg c (Ev.now _))))))
theorem concat3 (a b c:List Int) (h:a.length+b.length+c.length≤1000):slices_Concat.f ([a,b,c]:List (List Int))=some (a++b++c):=by
  unfold slices_Concat.f
  rw [if_pos ⟨by simp,by simp;omega⟩]
  simp
theorem ev_inner:∀ (t:Tr.F) (a:Int),t.size≤400→0≤a→a+t.size≤1000→Ev (fun k=>impl_inner.f k (Tr.B (Tr.tx t)) a) (Tr.inn t a):=by
  intro t
  induction t with
  | nil =>
    intro a h h0 h1
    refine Ev_succ ?_
    simp only [impl_inner.f]
    exact evpos (by rw [Tr.B_toList];rfl) (Ev.now _)
  | cons l r ihl ihr =>
    intro a h h0 h1
    simp only [Tr.F.size] at h h1
    have hn:impl_nodesOf.f (Tr.B (Tr.tx l))=some (l.size:Int):=by
      unfold impl_nodesOf.f
      rw [Tr.B_size,Tr.tx_length,Tr.wrap_id (by omega) (by omega)]
      congr 1;omega
    have hl:=Tr.inn_length l (a+1)
    have hr:=Tr.inn_length r (a+1+l.size)
    refine Ev_succ ?_
    simp only [impl_inner.f]
    rw [Tr.wrap_id (x:=a+1) (by omega) (by omega)]
    refine evneg (by rw [Tr.B_toList];exact Tr.tx_ne l r) (Ev.bind (ev_impl_sides l r (by omega)) (Ev.bind (ihl (a+1) (by omega) (by omega) (by omega)) ?_))
    dsimp only
    rw [hn]
    refine evsome ?_
    rw [Tr.wrap_id (x:=a+1+(l.size:Int)) (by omega) (by omega)]
    refine Ev.bind (ihr (a+1+l.size) (by omega) (by omega) (by omega)) ?_
    rw [concat3 _ _ _ (by simp;omega)]
    exact Ev.now _
theorem ev_InnerOrder (t:Tr.F) (h:t.size≤23):Ev (fun k=>impl_InnerOrder.f k (Tr.B (Tr.tx t))) (Tr.inn t 0,0):=by
  unfold impl_InnerOrder.f
  exact Ev.bind (ev_IsBinary _) (evpos (decide_eq_true ⟨by rw [Tr.tx_length];omega,Tr.en_self t⟩) (Ev.bind (ev_inner t 0 (by omega) (by omega) (by omega)) (Ev.now _)))
theorem ev_DecV (l:List Int) (hl:l.length≤100000000):Ev (fun k=>spec_DecreasingTree.f k l) (if l.length≤23∧l.Nodup then (Tr.dect l.length l,0) else (⟨#[]⟩,2))∧Ev (fun k=>impl_DecreasingTree.f k l) (if l.length≤23∧l.Nodup then (Tr.dect l.length l,0) else (⟨#[]⟩,2)):=by
  obtain ⟨r,h1,h2⟩:=ev_DecreasingTree l hl
  have h3:=ev_DecTree_spec l
  rw [ev_uniq h1 h3] at h2
  exact ⟨h3,h2⟩
theorem ev_ListV (t:Tr.F) (h:t.size≤23):Ev (fun k=>impl_ListOfDecreasing.f k (Tr.B (Tr.tx t))) (Tr.ls t 0,0):=by
  obtain ⟨r,h1,h2,_⟩:=ev_ListOfDecreasing (Tr.B (Tr.tx t))
  have h3:Ev (fun k=>spec_ListOfDecreasing.f k (Tr.B (Tr.tx t))) (Tr.ls t 0,0):=by
    unfold spec_ListOfDecreasing.f
    refine Ev.bind (ev_l03Is _) (evpos (decide_eq_true ⟨by rw [Tr.tx_length];omega,Tr.en_self t⟩) (Ev.bind (ev_l09List t 0 (by omega) (by omega) (by omega)) (Ev.now _)))
  rw [ev_uniq h1 h3] at h2
  exact h2
theorem ev_GrownV (l0:List Int):∃ r:List Int × List Int × Int,Ev (fun k=>spec_GrownTree.f k l0) r∧Ev (fun k=>impl_GrownTree.f k l0) r∧(r.1.length≤1000∧r.2.1.length≤1000)∧(r.2.2=0→l0.length≤23∧Gt.Grows l0∧r.1=Gt.wd l0 (l0.length+1) 0∧r.2.1=Gt.place 0 (Gt.wl l0 (l0.length+1) 0) (List.replicate (l0.length+1) 0)):=by
  obtain ⟨r,h1,h2,h3⟩:=ev_GrownTree l0
  refine ⟨r,h1,h2,h3,fun h0=>?_⟩
  by_cases hn:(l0.length:Int)>23
  · have h4:Ev (fun k=>impl_GrownTree.f k l0) ([],[],2):=by unfold impl_GrownTree.f;exact evpos hn (Ev.now _)
    rw [ev_uniq h2 h4] at h0
    exact absurd h0 (by decide)
  have hn1:l0.length≤23:=by omega
  cases hok:Gt.ok l0 0 with
  | false =>
    have hk0:Gt.Kids [[]] ([]:List Int):=⟨rfl,fun j=>by cases j <;> rfl⟩
    have hkf:=gt_kf l0 [] [[]] hk0
    have h4:Ev (fun k=>impl_GrownTree.f k l0) ([],[],2):=by
      unfold impl_GrownTree.f
      refine evneg hn ?_
      rw [show impl_GrownTree.kf l0 0 [[]]=none from hkf.2 hok]
      exact Ev.now _
    rw [ev_uniq h2 h4] at h0
    exact absurd h0 (by decide)
  | true =>
    have hq:=Gt.ok_grows hok
    have h4:=ev_impl_GrownTree l0 hn1 hq
    have e:=ev_uniq h2 h4
    exact ⟨hn1,hq,by rw [e],by rw [e]⟩
theorem ev_growth_back {q:List Int} (hq:Gt.Grows q) (hn:q.length≤23):Ev (fun k=>impl_IsGrowing.f k (Gt.wd q (q.length+1) 0) (Gt.place 0 (Gt.wl q (q.length+1) 0) (List.replicate (q.length+1) 0))) (true,0)∧Ev (fun k=>impl_ListOfGrowth.f k (Gt.wd q (q.length+1) 0) (Gt.place 0 (Gt.wl q (q.length+1) 0) (List.replicate (q.length+1) 0))) (q,0)∧(Gt.place 0 (Gt.wl q (q.length+1) 0) (List.replicate (q.length+1) 0)).length=q.length+1:=by
  obtain ⟨t,hs,G⟩:=Lg.grown_gro hq hn
  have hw:=(G.main).mpr ⟨rfl,rfl⟩
  have hlen:=G.h.len
  have hle:=G.h.le
  have hol:=G.ho.1
  generalize hl:Gt.place 0 (Gt.wl q (q.length+1) 0) (List.replicate (q.length+1) 0)=l at *
  generalize hd:Gt.wd q (q.length+1) 0=d at *
  refine ⟨ev_impl_IsGrowing G.h (by omega) (by rw [hlen];exact G.ho) G.hg,?_,by omega⟩
  have hc:Tr.codeG d l t=0:=Tr.codeG_zero.mpr ⟨by rw [hlen];exact G.ho,G.hg⟩
  have hp:=G.h.pos
  have h1:=ev_impl_ListOfGrowth_l0 G.h G.ho G.hg (t.size - 1) 0 (by omega)
  rw [if_pos hw,← Lg.gro_uniq G (gfn_gro G.h G.ho G.hg)] at h1
  unfold impl_ListOfGrowth.f
  exact Ev.bind (ev_growingCode G.h l (by omega)) (evpos hc (Ev.bind (ev_labelsOf G.ho (by omega)) (Ev.bind (ev_parentsOf G.h) (evpos (by omega) h1))))
theorem ev_FnGrowth_l1 {C N I:List Int} (hI:I.length=N.length) (hN:N.length≤1000) (hroot:∀ i:Nat,i<N.length→rd I (i:Int)=0→∀ j:Nat,j<N.length→rd N (j:Int)≤rd N (i:Int)) (i:Nat) (hi:i<N.length) (hR:Ev (fun k=>laws_FnGrowth.l0 k C N I (I.length:Int) ((i+1:Nat):Int)) true):∀ (m j:Nat),j+m=N.length→Ev (fun k=>laws_FnGrowth.l1 k C N I (i:Int) (I.length:Int) (i:Int) (N.length:Int) (j:Int)) true:=by
  intro m
  induction m with
  | zero =>
    intro j hj
    refine Ev_succ ?_
    simp only [laws_FnGrowth.l1]
    rw [Tr.wrap_succ (by omega)]
    exact evneg (by omega) hR
  | succ m ih =>
    intro j hj
    have h7:Ev (fun k=>laws_FnGrowth.j7 k C N I (i:Int) (I.length:Int) (i:Int) (N.length:Int) (j:Int) false) true:=by
      refine Ev_succ ?_
      simp only [laws_FnGrowth.j7]
      rw [Tr.wrap_succ (by omega)]
      exact evneg (by simp) (ih (j+1) (by omega))
    refine Ev_succ ?_
    simp only [laws_FnGrowth.l1]
    refine evpos (by omega) (evpos (by omega) (evpos (by omega) ?_))
    by_cases c:rd I (i:Int)=0
    · have:=hroot i hi c j (by omega)
      rw [decide_eq_false (by omega)]
      exact evpos c (evpos (by omega) (evpos (by omega) (evpos (by omega) h7)))
    · exact evneg c h7
theorem ev_FnGrowth_l0 {C N I:List Int} (hI:I.length=N.length) (hN:N.length≤1000) (hroot:∀ i:Nat,i<N.length→rd I (i:Int)=0→∀ j:Nat,j<N.length→rd N (j:Int)≤rd N (i:Int)) (hR:Ev (fun k=>laws_FnGrowth.j8 k C) true):∀ (m i:Nat),i+m=N.length→Ev (fun k=>laws_FnGrowth.l0 k C N I (I.length:Int) (i:Int)) true:=by
  intro m
  induction m with
  | zero =>
    intro i hi
    refine Ev_succ ?_
    simp only [laws_FnGrowth.l0]
    exact evneg (by omega) hR
  | succ m ih =>
    intro i hi
    refine Ev_succ ?_
    simp only [laws_FnGrowth.l0]
    exact evpos (by omega) (ev_FnGrowth_l1 hI hN hroot i (by omega) (ih (i+1) (by omega)) N.length 0 (by omega))
theorem ev_FnGrowth_j8 {C:List Int} (hC:Cod C):Ev (fun k=>laws_FnGrowth.j8 k C) true:=by
  obtain ⟨s,e1⟩:=ev_DrawListOfDecreasing hC
  obtain ⟨r,r1,r2,r3⟩:=ev_ListOfDecreasing s
  obtain ⟨d,o,l1,e2⟩:=ev_DrawListOfGrowth hC
  obtain ⟨q,q1,q2,q3⟩:=ev_ListOfGrowth d o (by omega)
  refine Ev_succ ?_
  simp only [laws_FnGrowth.j8]
  exact Ev.bind e1 (Ev.bind r2 (Ev.bind r1 (Ev.bind e2 (Ev.bind q2 (Ev.bind q1 (evpos rfl (Ev.bind (ev_likeInts _ (by omega)) (evpos rfl (evpos rfl (Ev.bind (ev_likeInts _ (by omega)) (Ev.now _)))))))))))
theorem ev_FnGrowth_j2 {C:List Int} (hC:Cod C):Ev (fun k=>laws_FnGrowth.j2 k C) true:=by
  have h8:=ev_FnGrowth_j8 hC
  obtain ⟨N,hN,e1⟩:=ev_DrawDecreasingTree hC
  obtain ⟨v1,v2⟩:=ev_DecV N (by omega)
  refine Ev_succ ?_
  simp only [laws_FnGrowth.j2]
  refine Ev.bind e1 (Ev.bind v2 (Ev.bind v1 (evpos rfl ?_)))
  refine Ev_succ ?_
  simp only [laws_FnGrowth.j3]
  refine evneg (by simp) ?_
  by_cases c:N.length≤23∧N.Nodup
  · rw [if_pos c]
    have hw:=Tr.decF_dect N.length N
    have hsz:=Tr.decF_size N.length N (Nat.le_refl _)
    have hinn:=Tr.inn_length (Tr.decF N.length N) 0
    have hls:=Tr.ls_length (Tr.decF N.length N) 0
    have hroot:=fun (i:Nat) (hi:i<N.length)=>Tr.inn_root (L:=N) (n:=N.length) (Nat.le_refl _) hi
    have hback:Ev (fun k=>impl_DecreasingTree.f k (Tr.ls (Tr.decF N.length N) 0)) (Tr.B (Tr.tx (Tr.decF N.length N)),0):=by
      have h2:=(ev_DecV (Tr.ls (Tr.decF N.length N) 0) (by omega)).2
      rw [if_pos ⟨by omega,Tr.ls_nodup _ _⟩,Tr.decF_dect,Tr.decF_ls _ _ _ (by omega)] at h2
      exact h2
    rw [hw]
    generalize Tr.decF N.length N=t at *
    refine evpos rfl (Ev.bind (ev_InnerOrder t (by omega)) (Ev.bind (ev_ListV t (by omega)) (Ev.bind hback (evpos rfl (evpos rfl (evpos rfl (evpos (by show ((Tr.inn t 0).length:Int)=_;omega) (evpos (by show ((Tr.ls t 0).length:Int)=_;omega) ?_))))))))
    refine Ev_succ ?_
    simp only [laws_FnGrowth.j4]
    refine evneg (by simp) ?_
    exact ev_FnGrowth_l0 (by omega) (by omega) (fun i hi h0 j hj=>by
      have:=hroot i hi h0
      rw [this]
      exact Tr.amax_all (by omega) hj) h8 N.length 0 (by omega)
  · rw [if_neg c]
    exact evneg (by decide) h8
theorem pure_FnGrowth (C:List Int) (hl:C.length≤maxLen) (hw:∀ x∈C,(Lit.int .u8 x).wf=true):∃ k,laws_FnGrowth.f k C=some true:=by
  refine Ev.rounds ?_
  unfold laws_FnGrowth.f laws_big.f
  by_cases hb:(C.length:Int)>4096
  · exact evsome (evpos (by simpa using hb) (Ev.now _))
  have hC:Cod C:=⟨by omega,fun x hx=>by
      have:=hw x hx
      have h3:IntKind.u8.min≤x∧x≤IntKind.u8.max:=by simpa [Lit.wf] using this
      exact h3⟩
  obtain ⟨q,hq,e1⟩:=ev_DrawGrownTree hC
  obtain ⟨r,r1,r2,r3,r4⟩:=ev_GrownV q
  have h2:=ev_FnGrowth_j2 hC
  have hT:Ev (fun k=>laws_trees5.f k r.1 r.1) true:=by
    unfold laws_trees5.f
    exact Ev.bind (ev_likeInts _ (by omega)) (Ev.now _)
  refine evsome (evneg (by simpa using hb) (Ev.bind e1 (Ev.bind r2 (Ev.bind r1 (evpos rfl (Ev.bind hT (evpos rfl (Ev.bind (ev_likeInts _ (by omega)) ?_))))))))
  refine Ev_succ ?_
  simp only [laws_FnGrowth.j0]
  refine evneg (by simp) ?_
  by_cases c:r.2.2=0
  · obtain ⟨g1,g2,g3,g4⟩:=r4 c
    obtain ⟨b1,b2,b3⟩:=ev_growth_back g2 g1
    rw [g3,g4]
    refine evpos c (Ev.bind b1 (Ev.bind b2 (evpos rfl (evpos rfl (evpos rfl (Ev.bind (ev_likeInts q (by omega)) (evpos rfl ?_)))))))
    refine Ev_succ ?_
    simp only [laws_FnGrowth.j1]
    refine evneg ?_ h2
    rw [b3,Tr.wrap_id (by omega) (by omega)]
    simp
  · exact evneg c h2
end Go.Proofs.YtlppkilencpmeaaGreat.QFnGrowth
