import Derived.Test.YtimfbpmaepmdoaaQFnDrawingsx
import Derived.Test.YtimfbpmaepmdoaaGs
import Derived.Test.YtimfbpmaepmdoaaWWords
import Derived.Test.YtimfbpmaepmdoaaWMore
import Derived.Lib.Join
import Derived.Lib.Repeat
import Derived.Laws.Bits64b
import Derived.Lib.SlicesCompact
namespace Go.Proofs.Ytimfbpmaepmdoaa.Tr
open Go.RowKit Go.Proofs.YtimfbpmaepmdoaaW.PrintWords
set_option linter.unusedSimpArgs false
set_option linter.unusedVariables false
inductive F where
  | nil:F
  | cons:F→F→F
  deriving DecidableEq
namespace F
def size:F→Nat
  | nil=>0
  | cons b n=>1+b.size+n.size
def len:F→Nat
  | nil=>0
  | cons _ n=>1+n.len
def enc:F→List Int
  | nil=>[]
  | cons b n=>(b.len:Int) :: (b.enc++n.enc)
def app:F→F→F
  | nil,g=>g
  | cons b n,g=>cons b (n.app g)
def roots:F→Nat→List Int
  | nil,_=>[]
  | cons b n,p=>(p:Int) :: n.roots (p+1+b.size)
def depths:F→Int→List Int
  | nil,_=>[]
  | cons b n,k=>k :: (b.depths (k+1)++n.depths k)
theorem enc_len (f:F):f.enc.length=f.size:=by
  induction f with
  | nil=>rfl
  | cons b n hb hn=>simp [enc,size,hb,hn];omega
theorem roots_len (f:F):∀ p,(f.roots p).length=f.len:=by
  induction f with
  | nil=>intro p;rfl
  | cons b n hb hn=>intro p;simp [roots,len,hn];omega
theorem depths_len (f:F):∀ k,(f.depths k).length=f.size:=by
  induction f with
  | nil=>intro p;rfl
  | cons b n hb hn=>intro p;simp [depths,size,hb,hn];omega
theorem len_le (f:F):f.len≤f.size:=by
  induction f with
  | nil=>exact Nat.le_refl _
  | cons b n hb hn=>simp [len,size];omega
theorem app_len (f g:F):(f.app g).len=f.len+g.len:=by
  induction f with
  | nil=>simp [app,len]
  | cons b n _ hn=>simp [app,len,hn];omega
theorem app_enc (f g:F):(f.app g).enc=f.enc++g.enc:=by
  induction f with
  | nil=>simp [app,enc]
  | cons b n _ hn=>simp [app,enc,hn]
theorem len_zero {f:F} (h:f.len=0):f=nil:=by
  cases f with
  | nil=>rfl
  | cons b n=>simp [len] at h
theorem split:∀ (g:F) (i:Nat),i≤g.len→∃ b n:F,g=b.app n∧b.len=i
  | g,0,_=>⟨nil,g,rfl,rfl⟩
  | nil,i+1,h=>by simp [len] at h
  | cons b n,i+1,h=>by
    obtain ⟨x,y,rfl,hx⟩:=split n i (by simp [len] at h;omega)
    exact ⟨cons b x,y,rfl,by simp only [len,hx];omega⟩
end F
def Pl (d:List Int) (p:Nat) (g:F):Prop:=∃ pre post,d=pre++g.enc++post∧pre.length=p
theorem rd_app (pre s:List Int) (i:Nat):rd (pre++s) ((pre.length+i:Nat):Int)=rd s (i:Nat):=by
  unfold rd
  rw [Int.toNat_natCast,Int.toNat_natCast,List.getD_eq_getElem?_getD,List.getD_eq_getElem?_getD,List.getElem?_append_right (by omega)]
  congr 2
  omega
theorem rd_app0 (pre s:List Int):rd (pre++s) (pre.length:Int)=rd s 0:=by
  have:=rd_app pre s 0
  simpa using this
theorem rd_left (pre s:List Int) (i:Int) (h0:0≤i) (h:i<pre.length):rd (pre++s) i=rd pre i:=by
  unfold rd
  rw [List.getD_eq_getElem?_getD,List.getD_eq_getElem?_getD,List.getElem?_append_left (by omega)]
theorem rd_cons0 (x:Int) (s:List Int):rd (x :: s) 0=x:=by simp [rd]
theorem rd_mem {l:List Int} {i:Int} (h0:0≤i) (h:i<l.length):rd l i∈l:=by
  unfold rd
  rw [List.getD_eq_getElem?_getD,List.getElem?_eq_getElem (by omega)]
  exact List.getElem_mem _
theorem rd_getElem {l:List Int} {i:Nat} (h:i<l.length):rd l (i:Int)=l[i]:=by
  unfold rd
  rw [List.getD_eq_getElem?_getD,Int.toNat_natCast,List.getElem?_eq_getElem h];rfl
namespace Pl
theorem le {d:List Int} {p:Nat} {g:F} (h:Pl d p g):p+g.size≤d.length:=by
  obtain ⟨pre,post,rfl,rfl⟩:=h
  simp only [List.length_append,F.enc_len];omega
theorem whole (g:F):Pl g.enc 0 g:=⟨[],[],by simp,rfl⟩
theorem deg {d:List Int} {p:Nat} {b n:F} (h:Pl d p (.cons b n)):rd d (p:Int)=b.len:=by
  obtain ⟨pre,post,rfl,rfl⟩:=h
  rw [List.append_assoc,rd_app0]
  simp [F.enc,rd]
theorem below {d:List Int} {p:Nat} {b n:F} (h:Pl d p (.cons b n)):Pl d (p+1) b:=by
  obtain ⟨pre,post,rfl,rfl⟩:=h
  exact ⟨pre++[(b.len:Int)],n.enc++post,by simp [F.enc],by simp⟩
theorem next {d:List Int} {p:Nat} {b n:F} (h:Pl d p (.cons b n)):Pl d (p+1+b.size) n:=by
  obtain ⟨pre,post,rfl,rfl⟩:=h
  exact ⟨pre++(b.len:Int) :: b.enc,post,by simp [F.enc],by simp [F.enc_len];omega⟩
theorem one {d:List Int} {p:Nat} {b n:F} (h:Pl d p (.cons b n)):Pl d p (.cons b .nil):=by
  obtain ⟨pre,post,rfl,rfl⟩:=h
  exact ⟨pre,n.enc++post,by simp [F.enc],rfl⟩
end Pl
def ok:List Int→Int→Bool
  | [],m=>m == 0
  | x :: xs,m=>m != 0 && (decide (0≤x) && (decide (x<24) && ok xs (m - 1+x)))
def isT (d:List Int):Bool:=decide (1≤d.length) && (decide (d.length≤24) && ok d 1)
theorem ok_enc:∀ (l:List Int) (m:Int),0≤m→ok l m=true→∃ g:F,l=g.enc∧(g.len:Int)=m:=by
  intro l
  induction l with
  | nil=>intro m _ h;exact ⟨.nil,rfl,by simp [ok] at h;simp [F.len,h]⟩
  | cons x xs ih =>
    intro m hm h
    simp only [ok,Bool.and_eq_true,bne_iff_ne,decide_eq_true_eq] at h
    obtain ⟨h0,h1,h2,h3⟩:=h
    obtain ⟨g,rfl,hg⟩:=ih (m - 1+x) (by omega) h3
    obtain ⟨b,n,rfl,hb⟩:=F.split g x.toNat (by omega)
    refine ⟨.cons b n,?_,?_⟩
    · simp only [F.enc,F.app_enc,List.cons.injEq,and_true];omega
    · rw [F.app_len] at hg;simp only [F.len];omega
theorem enc_ok:∀ (g:F) (s:List Int) (j:Nat),g.size<24→ok (g.enc++s) (g.len+j)=ok s j:=by
  intro g
  induction g with
  | nil=>intro s j _;simp [F.enc,F.len]
  | cons b n hb hn =>
    intro s j hs
    simp only [F.size] at hs
    have h1:=hb (n.enc++s) (n.len+j) (by omega)
    have h2:=hn s j (by omega)
    have hl:=F.len_le b
    have e:((1+n.len:Nat):Int)+(j:Int) - 1+(b.len:Int)=(b.len:Int)+((n.len+j:Nat):Int):=by omega
    have e2:((n.len+j:Nat):Int)=(n.len:Int)+(j:Int):=by omega
    have hne:((1+n.len:Nat):Int)+(j:Int)≠0:=by omega
    simp only [F.enc,F.len,List.cons_append,ok,List.append_assoc,e,h1]
    rw [e2,h2]
    have hb0:(0:Int)≤(b.len:Int):=by omega
    have hb1:(b.len:Int)<24:=by omega
    rw [bne_iff_ne.mpr hne,decide_eq_true hb0,decide_eq_true hb1]
    rfl
theorem isT_iff (d:List Int):isT d=true↔∃ b:F,d=(F.cons b .nil).enc∧1+b.size≤24:=by
  constructor
  · intro h
    simp only [isT,Bool.and_eq_true,decide_eq_true_eq] at h
    obtain ⟨h0,h1,h2⟩:=h
    obtain ⟨g,rfl,hg⟩:=ok_enc d 1 (by omega) h2
    cases g with
    | nil=>simp [F.len] at hg
    | cons b n =>
      obtain rfl:=F.len_zero (f:=n) (by simp [F.len] at hg;omega)
      refine ⟨b,rfl,?_⟩
      simp [F.enc_len,F.size] at h1
      omega
  · rintro ⟨b,rfl,hb⟩
    simp only [isT,Bool.and_eq_true,decide_eq_true_eq,F.enc_len,F.size]
    refine ⟨by omega,by omega,?_⟩
    have h1:=enc_ok b [] 0 (by omega)
    have hl:=F.len_le b
    have e:(1:Int) - 1+(b.len:Int)=(b.len:Int)+((0:Nat):Int):=by omega
    simp only [F.enc,ok,List.append_nil] at h1 ⊢
    rw [e,h1]
    have hb1:(b.len:Int)<24:=by omega
    simp [hb1]
def ok25:List Int→Int→Bool
  | [],m=>m == 0
  | x :: xs,m=>m != 0 && (decide (0≤x∧x≤24) && ok25 xs (m - 1+x))
theorem ok25_short:∀ (l:List Int) (m:Int),l.length<m→ok25 l m=false:=by
  intro l
  induction l with
  | nil=>intro m h;simp [ok25] at h ⊢;omega
  | cons x l ih =>
    intro m h
    by_cases hx:0≤x∧x≤24
    · simp only [ok25,ih (m - 1+x) (by simp only [List.length_cons] at h;omega),Bool.and_false]
    · simp only [ok25,decide_eq_false hx,Bool.false_and,Bool.and_false]
theorem ok25_eq:∀ (l:List Int) (m:Int),0≤m→l.length≤24→ok25 l m=ok l m:=by
  intro l
  induction l with
  | nil=>intro m _ _;rfl
  | cons x l ih =>
    intro m hm hl
    simp only [List.length_cons] at hl
    by_cases h0:m=0
    · simp [ok25,ok,h0]
    by_cases hx:0≤x
    · by_cases hy:x<24
      · simp only [ok25,ok,ih (m - 1+x) (by omega) (by omega),decide_eq_true hx,decide_eq_true hy,decide_eq_true (⟨hx,by omega⟩:0≤x∧x≤24),Bool.true_and]
      · simp only [ok25,ok,decide_eq_false hy,Bool.false_and,Bool.and_false]
        by_cases hz:x=24
        · simp only [ok25_short l (m - 1+x) (by omega),Bool.and_false]
        · simp only [decide_eq_false (by omega:¬ (0≤x∧x≤24)),Bool.false_and,Bool.and_false]
    · simp only [ok25,ok,decide_eq_false hx,decide_eq_false (fun h=>hx h.1:¬ (0≤x∧x≤24)),Bool.false_and,Bool.and_false]
theorem isT_eq25 (d:List Int) (h0:1≤d.length) (h1:d.length≤24):isT d=ok25 d 1:=by
  rw [ok25_eq d 1 (by omega) h1]
  simp only [isT,decide_eq_true h0,decide_eq_true h1,Bool.true_and]
theorem wrap_id {x:Int} (h0:-9223372036854775808≤x) (h1:x<9223372036854775808):wrap64 x=x:=by
  unfold wrap64;omega
theorem isT_at {d:List Int} (h:isT d=true):∃ b:F,d=(F.cons b .nil).enc∧1+b.size≤24∧d.length=1+b.size∧Pl d 0 (.cons b .nil):=by
  obtain ⟨b,rfl,hb⟩:=(isT_iff d).1 h
  exact ⟨b,rfl,hb,by rw [F.enc_len];simp [F.size],Pl.whole _⟩
theorem wrap_succ {i:Nat} (h:i≤1000000000000):wrap64 ((i:Int)+1)=((i+1:Nat):Int):=by
  rw [wrap_id (by omega) (by omega)];omega
end Go.Proofs.Ytimfbpmaepmdoaa.Tr
namespace Go.Proofs.Ytimfbpmaepmdoaa.Tr
open Go.RowKit Go.Proofs.YtimfbpmaepmdoaaW.PrintWords
set_option linter.unusedSimpArgs false
set_option linter.unusedVariables false
namespace F
def sub:F→Nat→F
  | nil,_=>nil
  | cons b n,v=>if v=0 then b else if v<1+b.size then b.sub (v - 1) else n.sub (v - 1 - b.size)
def par:F→Nat→Int→Nat→Int
  | nil,_,q,_=>q
  | cons b n,p,q,c=>if c=p then q else if c<p+1+b.size then b.par (p+1) p c else n.par (p+1+b.size) q c
def dep:F→Nat→Int→Nat→Int
  | nil,_,k,_=>k
  | cons b n,p,k,c=>if c=p then k else if c<p+1+b.size then b.dep (p+1) (k+1) c else n.dep (p+1+b.size) k c
theorem sub_zero (b n:F):(cons b n).sub 0=b:=by simp [sub]
theorem sub_left {b n:F} {v:Nat} (h0:1≤v) (h:v<1+b.size):(cons b n).sub v=b.sub (v - 1):=by
  rw [sub,if_neg (by omega),if_pos h]
theorem sub_right {b n:F} {v:Nat} (h:1+b.size≤v):(cons b n).sub v=n.sub (v - 1 - b.size):=by
  rw [sub,if_neg (by omega),if_neg (by omega)]
theorem sub_fits:∀ (g:F) (v:Nat),v<g.size→v+1+(g.sub v).size≤g.size:=by
  intro g
  induction g with
  | nil=>intro v h;simp [size] at h
  | cons b n hb hn =>
    intro v h
    simp only [size] at h ⊢
    by_cases h0:v=0
    · subst h0;rw [sub_zero];omega
    · by_cases h1:v<1+b.size
      · rw [sub_left (by omega) h1]
        have:=hb (v - 1) (by omega);omega
      · rw [sub_right (by omega)]
        have:=hn (v - 1 - b.size) (by omega);omega
theorem par_range:∀ (g:F) (p:Nat) (q:Int) (c:Nat),p≤c→c<p+g.size→g.par p q c=q∨((p:Int)≤g.par p q c∧g.par p q c<c):=by
  intro g
  induction g with
  | nil=>intro p q c h1 h2;simp [size] at h2;omega
  | cons b n hb hn =>
    intro p q c h1 h2
    simp only [size] at h2
    rw [par]
    by_cases e:c=p
    · rw [if_pos e];exact .inl rfl
    · rw [if_neg e]
      by_cases h3:c<p+1+b.size
      · rw [if_pos h3]
        rcases hb (p+1) p c (by omega) h3 with h|h
        · rw [h];omega
        · omega
      · rw [if_neg h3]
        rcases hn (p+1+b.size) q c (by omega) (by omega) with h|h
        · exact .inl h
        · omega
theorem roots_range:∀ (g:F) (p:Nat) (c:Int),c∈g.roots p→(p:Int)≤c∧c<p+g.size:=by
  intro g
  induction g with
  | nil=>intro p c h;simp [roots] at h
  | cons b n hb hn =>
    intro p c h
    simp only [roots,List.mem_cons] at h
    simp only [size]
    rcases h with rfl|h
    · omega
    · have:=hn _ _ h;omega
theorem roots_par:∀ (g:F) (p:Nat) (q:Int) (c:Nat),q<p→p≤c→c<p+g.size→((c:Int)∈g.roots p↔g.par p q c=q):=by
  intro g
  induction g with
  | nil=>intro p q c hq h1 h2;simp [size] at h2;omega
  | cons b n hb hn =>
    intro p q c hq h1 h2
    simp only [size] at h2
    rw [par,roots,List.mem_cons]
    by_cases e:c=p
    · rw [if_pos e];simp [e]
    · rw [if_neg e]
      by_cases h3:c<p+1+b.size
      · rw [if_pos h3]
        constructor
        · rintro (h|h)
          · omega
          · have:=roots_range _ _ _ h;omega
        · intro h
          rcases par_range b (p+1) p c (by omega) h3 with h'|h' <;> omega
      · rw [if_neg h3]
        have:=hn (p+1+b.size) q c (by omega) (by omega) (by omega)
        rw [← this]
        constructor
        · rintro (h|h)
          · omega
          · exact h
        · exact fun h=>.inr h
theorem kids_par:∀ (g:F) (p:Nat) (q:Int) (v c:Nat),q<p→p≤v→v<p+g.size→p≤c→c<p+g.size →
    ((c:Int)∈(g.sub (v - p)).roots (v+1)↔g.par p q c=v):=by
  intro g
  induction g with
  | nil=>intro p q v c hq h1 h2;simp [size] at h2;omega
  | cons b n hb hn =>
    intro p q v c hq h1 h2 h3 h4
    simp only [size] at h2 h4
    rw [par]
    by_cases ev:v=p
    · subst ev
      rw [Nat.sub_self,sub_zero]
      by_cases e:c=v
      · rw [if_pos e]
        constructor
        · intro h;have:=roots_range _ _ _ h;omega
        · intro h;omega
      · rw [if_neg e]
        by_cases h5:c<v+1+b.size
        · rw [if_pos h5];exact roots_par b (v+1) v c (by omega) (by omega) h5
        · rw [if_neg h5]
          constructor
          · intro h;have:=roots_range _ _ _ h;omega
          · intro h
            rcases par_range n (v+1+b.size) q c (by omega) (by omega) with h'|h' <;> omega
    · by_cases hv:v<p+1+b.size
      · rw [sub_left (by omega) (by omega),show v - p - 1=v - (p+1) by omega]
        by_cases e:c=p
        · rw [if_pos e]
          constructor
          · intro h;have:=roots_range _ _ _ h;omega
          · intro h;omega
        · rw [if_neg e]
          by_cases h5:c<p+1+b.size
          · rw [if_pos h5];exact hb (p+1) p v c (by omega) (by omega) (by omega) (by omega) h5
          · rw [if_neg h5]
            constructor
            · intro h
              have:=roots_range _ _ _ h
              have:=sub_fits b (v - (p+1)) (by omega)
              omega
            · intro h
              rcases par_range n (p+1+b.size) q c (by omega) (by omega) with h'|h' <;> omega
      · rw [sub_right (by omega),show v - p - 1 - b.size=v - (p+1+b.size) by omega]
        by_cases e:c=p
        · rw [if_pos e]
          constructor
          · intro h;have:=roots_range _ _ _ h;omega
          · intro h;omega
        · rw [if_neg e]
          by_cases h5:c<p+1+b.size
          · rw [if_pos h5]
            constructor
            · intro h;have:=roots_range _ _ _ h;omega
            · intro h
              rcases par_range b (p+1) p c (by omega) h5 with h'|h' <;> omega
          · rw [if_neg h5];exact hn (p+1+b.size) q v c (by omega) (by omega) (by omega) (by omega) (by omega)
theorem par_self {p:Nat} {b n:F} {q:Int}:(cons b n).par p q p=q:=by simp [par]
theorem dep_self {p:Nat} {b n:F} {q:Int}:(cons b n).dep p q p=q:=by simp [dep]
theorem dep_par:∀ (g:F) (p:Nat) (q:Int) (k:Int) (c:Nat),q<p→p≤c→c<p+g.size →
    (g.par p q c=q∧g.dep p k c=k)∨∃ v:Nat,g.par p q c=v∧p≤v∧v<c∧g.dep p k c=g.dep p k v+1:=by
  intro g
  induction g with
  | nil=>intro p q k c hq h1 h2;simp [size] at h2;omega
  | cons b n hb hn =>
    intro p q k c hq h1 h2
    simp only [size] at h2
    by_cases e:c=p
    · subst e;exact .inl ⟨par_self,dep_self⟩
    · by_cases h3:c<p+1+b.size
      · right
        have e1:(cons b n).par p q c=b.par (p+1) p c:=by rw [par,if_neg e,if_pos h3]
        have e2:(cons b n).dep p k c=b.dep (p+1) (k+1) c:=by rw [dep,if_neg e,if_pos h3]
        rw [e1,e2]
        rcases hb (p+1) p (k+1) c (by omega) (by omega) h3 with ⟨h,h'⟩|⟨v,h,hv,hv2,h'⟩
        · exact ⟨p,h,by omega,by omega,by rw [h',dep_self]⟩
        · refine ⟨v,h,by omega,hv2,?_⟩
          rw [h',dep,if_neg (by omega),if_pos (by omega)]
      · have e1:(cons b n).par p q c=n.par (p+1+b.size) q c:=by rw [par,if_neg e,if_neg h3]
        have e2:(cons b n).dep p k c=n.dep (p+1+b.size) k c:=by rw [dep,if_neg e,if_neg h3]
        rw [e1,e2]
        rcases hn (p+1+b.size) q k c (by omega) (by omega) (by omega) with h|⟨v,h,hv,hv2,h'⟩
        · exact .inl h
        · refine .inr ⟨v,h,by omega,hv2,?_⟩
          rw [h',dep,if_neg (by omega),if_neg (by omega)]
end F
theorem Pl.nth:∀ {g:F} {d:List Int} {p:Nat} (_:Pl d p g) (v:Nat),v<g.size→∃ n,Pl d (p+v) (.cons (g.sub v) n):=by
  intro g
  induction g with
  | nil=>intro d p h v h2;simp [F.size] at h2
  | cons b n hb hn =>
    intro d p h v h2
    simp only [F.size] at h2
    by_cases e:v=0
    · subst e;rw [F.sub_zero];exact ⟨n,h⟩
    · by_cases h3:v<1+b.size
      · rw [F.sub_left (by omega) h3]
        obtain ⟨m,hm⟩:=hb h.below (v - 1) (by omega)
        exact ⟨m,by rw [show p+v=p+1+(v - 1) by omega];exact hm⟩
      · rw [F.sub_right (by omega)]
        obtain ⟨m,hm⟩:=hn h.next (v - 1 - b.size) (by omega)
        exact ⟨m,by rw [show p+v=p+1+b.size+(v - 1 - b.size) by omega];exact hm⟩
structure Tree (d:List Int) (t:F):Prop where
  enc:d=t.enc
  one:∃ b,t=.cons b .nil
  few:t.size≤24
theorem Tree.of {d:List Int} (h:isT d=true):∃ t,Tree d t:=by
  obtain ⟨b,rfl,hb,_,_⟩:=isT_at h
  exact ⟨.cons b .nil,rfl,⟨b,rfl⟩,by simp only [F.size];omega⟩
theorem isT_cases (d:List Int):isT d=false∨∃ t,Tree d t:=by
  cases h:isT d with
  | false=>exact .inl rfl
  | true=>exact .inr (Tree.of h)
namespace Tree
variable {d:List Int} {t:F}
theorem isT (h:Tree d t):isT d=true:=by
  obtain ⟨rfl,⟨b,rfl⟩,hf⟩:=h
  exact (isT_iff _).2 ⟨b,rfl,by simp only [F.size] at hf;omega⟩
theorem len (h:Tree d t):d.length=t.size:=by rw [h.enc,F.enc_len]
theorem le (h:Tree d t):d.length≤24:=by rw [h.len];exact h.few
theorem pos (h:Tree d t):1≤t.size:=by obtain ⟨_,⟨b,rfl⟩,_⟩:=h;simp only [F.size];omega
theorem pl (h:Tree d t):Pl d 0 t:=by rw [h.enc];exact Pl.whole _
theorem node (h:Tree d t) {v:Nat} (hv:v<t.size):∃ n,Pl d v (.cons (t.sub v) n):=by
  have:=h.pl.nth v hv
  rwa [Nat.zero_add] at this
theorem deg (h:Tree d t) {v:Nat} (hv:v<t.size):rd d (v:Int)=(t.sub v).len:=by
  obtain ⟨n,hp⟩:=h.node hv
  exact hp.deg
theorem fits (h:Tree d t) {v:Nat} (hv:v<t.size):v+1+(t.sub v).size≤t.size:=F.sub_fits t v hv
theorem par_zero (h:Tree d t):t.par 0 (-1) 0=-1:=by obtain ⟨_,⟨b,rfl⟩,_⟩:=h;exact F.par_self
theorem par_pos (h:Tree d t) {c:Nat} (h1:1≤c) (hc:c<t.size):0≤t.par 0 (-1) c∧t.par 0 (-1) c<c:=by
  obtain ⟨rfl,⟨b,rfl⟩,_⟩:=h
  simp only [F.size] at hc
  rw [F.par,if_neg (by omega),if_pos (by omega)]
  rcases F.par_range b (0+1) ((0:Nat):Int) c (by omega) (by omega) with h'|h' <;> omega
theorem par_lt (h:Tree d t) {c:Nat} (hc:c<t.size):-1≤t.par 0 (-1) c∧t.par 0 (-1) c<c:=by
  by_cases e:c=0
  · subst e;rw [h.par_zero];omega
  · have:=h.par_pos (c:=c) (by omega) hc;omega
theorem kids (h:Tree d t) {v c:Nat} (hv:v<t.size) (hc:c<t.size):(c:Int)∈(t.sub v).roots (v+1)↔t.par 0 (-1) c=v:=by
  have:=F.kids_par t 0 (-1) v c (by omega) (by omega) (by omega) (by omega) (by omega)
  rwa [Nat.sub_zero] at this
theorem kid_range (h:Tree d t) {v:Nat} (hv:v<t.size) {c:Int} (hc:c∈(t.sub v).roots (v+1)):(v:Int)<c∧c<t.size:=by
  have h1:=F.roots_range _ _ _ hc
  have h2:=h.fits hv
  omega
theorem dep_zero (h:Tree d t):t.dep 0 0 0=0:=by obtain ⟨_,⟨b,rfl⟩,_⟩:=h;exact F.dep_self
theorem dep_step (h:Tree d t) {c:Nat} (h1:1≤c) (hc:c<t.size):t.dep 0 0 c=t.dep 0 0 (t.par 0 (-1) c).toNat+1:=by
  rcases F.dep_par t 0 (-1) 0 c (by omega) (by omega) (by omega) with ⟨h2,_⟩|⟨v,h2,_,_,h3⟩
  · have:=h.par_pos h1 hc;omega
  · rw [h2,h3];simp
theorem dep_range (h:Tree d t):∀ c,c<t.size→0≤t.dep 0 0 c∧t.dep 0 0 c≤c:=by
  intro c
  induction c using Nat.strongRecOn with
  | _ c ih =>
    intro hc
    by_cases e:c=0
    · subst e;rw [h.dep_zero];omega
    · have h1:=h.par_pos (c:=c) (by omega) hc
      rw [h.dep_step (by omega) hc]
      have:=ih (t.par 0 (-1) c).toNat (by omega) (by omega)
      omega
end Tree
def each (n:Nat) (f:Nat→Int):List Int:=(List.range n).map f
theorem each_len (n:Nat) (f:Nat→Int):(each n f).length=n:=by simp [each]
theorem each_rd {n:Nat} {f:Nat→Int} {v:Nat} (h:v<n):rd (each n f) (v:Int)=f v:=by
  rw [rd_getElem (by rw [each_len];exact h)]
  simp [each]
theorem each_succ (n:Nat) (f:Nat→Int):each (n+1) f=each n f++[f n]:=by simp [each,List.range_succ]
theorem each_eq {n:Nat} {f:Nat→Int} {l:List Int} (hl:l.length=n) (h:∀ v,v<n→rd l (v:Int)=f v):l=each n f:=by
  apply List.ext_getElem
  · rw [each_len,hl]
  · intro i h1 h2
    have:=h i (by omega)
    rw [rd_getElem h1] at this
    rw [this];simp [each]
def setAll (out:List Int) (l:List Int) (v:Int):List Int:=l.foldl (fun o c=>o.set c.toNat v) out
theorem setAll_len (l:List Int) (v:Int):∀ out,(setAll out l v).length=out.length:=by
  induction l with
  | nil=>intro out;rfl
  | cons c l ih=>intro out;simp only [setAll,List.foldl_cons];exact (ih _).trans (by simp)
theorem rd_set {l:List Int} {c:Int} {x:Int} {i:Nat} (hi:i<l.length) (h0:0≤c):rd (l.set c.toNat x) (i:Int)=if c=i then x else rd l (i:Int):=by
  rw [rd_getElem (by simpa using hi),rd_getElem hi,List.getElem_set]
  by_cases e:c.toNat=i
  · rw [if_pos e,if_pos (by omega)]
  · rw [if_neg e,if_neg (by omega)]
theorem setAll_rd (v:Int):∀ (l:List Int) (out:List Int) (i:Nat),(∀ c∈l,0≤c)→i<out.length→rd (setAll out l v) (i:Int)=if (i:Int)∈l then v else rd out (i:Int):=by
  intro l
  induction l with
  | nil=>intro out i _ _;simp [setAll]
  | cons c l ih =>
    intro out i h0 hi
    have h1:=ih (out.set c.toNat v) i (fun x hx=>h0 x (List.mem_cons_of_mem _ hx)) (by simpa using hi)
    simp only [setAll,List.foldl_cons] at h1 ⊢
    rw [h1,rd_set hi (h0 c (List.mem_cons_self ..))]
    by_cases e:(i:Int)∈l
    · rw [if_pos e,if_pos (List.mem_cons_of_mem _ e)]
    · rw [if_neg e]
      by_cases e2:c=i
      · rw [if_pos e2,if_pos (by rw [e2];exact List.mem_cons_self ..)]
      · rw [if_neg e2,if_neg (by simp only [List.mem_cons,not_or];exact ⟨fun h=>e2 h.symm,e⟩)]
def parentsL (t:F):List Int:=each t.size (t.par 0 (-1))
def depthsL (t:F):List Int:=each t.size (t.dep 0 0)
end Go.Proofs.Ytimfbpmaepmdoaa.Tr
namespace Go.Proofs.Ytimfbpmaepmdoaa.Tr
open Go.RowKit Go.Proofs.YtimfbpmaepmdoaaW.PrintWords
set_option linter.unusedSimpArgs false
set_option linter.unusedVariables false
def upto (m:Nat):List Int:=each m (fun v=>(v:Int))
end Go.Proofs.Ytimfbpmaepmdoaa.Tr
namespace Go.Proofs.Ytimfbpmaepmdoaa.Tr
open Go.RowKit Go.Proofs.YtimfbpmaepmdoaaW.PrintWords
set_option linter.unusedSimpArgs false
set_option linter.unusedVariables false
def idx (x:Int):List Int→Nat→Int
  | [],_=>-1
  | y :: r,i=>if x=y then (i:Int) else idx x r (i+1)
theorem idx_range (x:Int):∀ (l:List Int) (i:Nat),idx x l i=-1∨((i:Int)≤idx x l i∧idx x l i<((i+l.length:Nat):Int)):=by
  intro l
  induction l with
  | nil=>intro i;exact .inl rfl
  | cons y r ih =>
    intro i
    unfold idx
    split
    · right;simp only [List.length_cons];omega
    · rcases ih (i+1) with h|h
      · exact .inl h
      · right;simp only [List.length_cons];omega
theorem idx_shift (x:Int):∀ (l:List Int) (i j:Nat),idx x l (i+j)=if 0≤idx x l i then idx x l i+j else -1:=by
  intro l
  induction l with
  | nil=>intro i j;simp [idx]
  | cons y r ih =>
    intro i j
    unfold idx
    by_cases h:x=y
    · rw [if_pos h,if_pos h,if_pos (by omega)];omega
    · rw [if_neg h,if_neg h]
      have:=ih (i+1) j
      rw [show i+1+j=i+j+1 by omega] at this
      exact this
theorem idx_get (x:Int):∀ (l:List Int) (i:Nat),0≤idx x l i→rd l (idx x l i - i)=x:=by
  intro l
  induction l with
  | nil=>intro i h;simp [idx] at h
  | cons y r ih =>
    intro i h
    unfold idx at h ⊢
    by_cases e:x=y
    · rw [if_pos e] at h ⊢
      rw [show (i:Int) - i=0 by omega,rd_cons0,e]
    · rw [if_neg e] at h ⊢
      have h2:=ih (i+1) h
      rcases idx_range x r (i+1) with h3|h3
      · omega
      · have e2:idx x r (i+1) - i=((idx x r (i+1) - ((i+1:Nat):Int)).toNat:Int)+1:=by omega
        have e3:idx x r (i+1) - ((i+1:Nat):Int)=((idx x r (i+1) - ((i+1:Nat):Int)).toNat:Int):=by omega
        rw [e3] at h2
        rw [e2]
        unfold rd at h2 ⊢
        rw [show ((idx x r (i+1) - ((i+1:Nat):Int)).toNat:Int)+1=(((idx x r (i+1) - ((i+1:Nat):Int)).toNat+1:Nat):Int) by omega,Int.toNat_natCast,List.getD_cons_succ]
        rw [Int.toNat_natCast] at h2
        exact h2
end Go.Proofs.Ytimfbpmaepmdoaa.Tr
namespace Go.Proofs.Ytimfbpmaepmdoaa.Td
open Go.RowKit Go.Proofs.YtimfbpmaepmdoaaW.PrintWords Go.Proofs.Ytimfbpmaepmdoaa.Tr
set_option linter.unusedSimpArgs false
set_option linter.unusedVariables false
abbrev Pt:=Int × Int
def stp (o:Option Int) (x:Int):Option Int :=
  match o with
  | none=>some x
  | some y=>if x>y then some x else some y
def ned1 (p:Pt):List Pt→Option Int→Option Int
  | [],o=>o
  | q :: Q,o=>ned1 p Q (if p.1=q.1 then stp o (p.2+2 - q.2) else o)
def ned (Q:List Pt):List Pt→Option Int→Option Int
  | [],o=>o
  | p :: P,o=>ned Q P (ned1 p Q o)
def mv (P Q:List Pt):Int:=(ned Q P none).getD 0
def shf (b:Int) (Q:List Pt):List Pt:=Q.map fun q=>(q.1,q.2+b)
def rt (R:List Int):Int:=if R=[] then 0 else (rd R 0+rd R ((R.length:Int) - 1)) / 2
def tre (s:List Pt × List Int):List Pt:=(0,rt s.2) :: s.1.map fun p=>(p.1+1,p.2)
def pl:F→List Pt × List Int→List Pt × List Int
  | .nil,s=>s
  | .cons b n,s=>pl n (s.1++shf (mv s.1 (tre (pl b ([],[])))) (tre (pl b ([],[]))),s.2++[rt (pl b ([],[])).2+mv s.1 (tre (pl b ([],[])))])
def Mx (o:Option Int) (S:Int→Prop):Prop:=(o=none∧∀ x,¬ S x)∨∃ m,o=some m∧S m∧∀ x,S x→x≤m
theorem Mx.stp {o:Option Int} {S:Int→Prop} (h:Mx o S) (x:Int):Mx (stp o x) (fun y=>S y∨y=x):=by
  rcases h with ⟨rfl,h⟩|⟨m,rfl,h1,h2⟩
  · exact .inr ⟨x,rfl,.inr rfl,fun y hy=>hy.elim (fun h3=>absurd h3 (h y)) (fun h3=>by omega)⟩
  · unfold Td.stp
    by_cases hx:x>m
    · exact .inr ⟨x,by simp [hx],.inr rfl,fun y hy=>hy.elim (fun h3=>by have:=h2 y h3;omega) (fun h3=>by omega)⟩
    · exact .inr ⟨m,by simp [hx],.inl h1,fun y hy=>hy.elim (fun h3=>h2 y h3) (fun h3=>by omega)⟩
theorem Mx.congr {o:Option Int} {S S':Int→Prop} (h:Mx o S) (hs:∀ x,S x↔S' x):Mx o S':=by
  rcases h with ⟨h0,h⟩|⟨m,h0,h1,h2⟩
  · exact .inl ⟨h0,fun x hx=>h x ((hs x).mpr hx)⟩
  · exact .inr ⟨m,h0,(hs m).mp h1,fun x hx=>h2 x ((hs x).mpr hx)⟩
theorem Mx.ned1 (p:Pt):∀ (Q:List Pt) (o:Option Int) (S:Int→Prop),Mx o S→Mx (ned1 p Q o) (fun y=>S y∨∃ q∈Q,p.1=q.1∧y=p.2+2 - q.2):=by
  intro Q
  induction Q with
  | nil=>intro o S h;exact h.congr (fun x=>by simp)
  | cons q Q ih =>
    intro o S h
    rw [Td.ned1]
    by_cases hq:p.1=q.1
    · rw [if_pos hq]
      refine (ih _ _ (h.stp _)).congr (fun x=>?_)
      constructor
      · rintro ((h1|h1)|⟨q',h1,h2⟩)
        · exact .inl h1
        · exact .inr ⟨q,by simp,hq,h1⟩
        · exact .inr ⟨q',by simp [h1],h2⟩
      · rintro (h1|⟨q',h1,h2⟩)
        · exact .inl (.inl h1)
        · rcases List.mem_cons.mp h1 with h3|h3
          · subst h3;exact .inl (.inr h2.2)
          · exact .inr ⟨q',h3,h2⟩
    · rw [if_neg hq]
      refine (ih _ _ h).congr (fun x=>?_)
      constructor
      · rintro (h1|⟨q',h1,h2⟩)
        · exact .inl h1
        · exact .inr ⟨q',by simp [h1],h2⟩
      · rintro (h1|⟨q',h1,h2⟩)
        · exact .inl h1
        · rcases List.mem_cons.mp h1 with h3|h3
          · subst h3;exact absurd h2.1 hq
          · exact .inr ⟨q',h3,h2⟩
theorem Mx.ned (Q:List Pt):∀ (P:List Pt) (o:Option Int) (S:Int→Prop),Mx o S→Mx (ned Q P o) (fun y=>S y∨∃ p∈P,∃ q∈Q,p.1=q.1∧y=p.2+2 - q.2):=by
  intro P
  induction P with
  | nil=>intro o S h;exact h.congr (fun x=>by simp)
  | cons p P ih =>
    intro o S h
    rw [Td.ned]
    refine (ih _ _ (Mx.ned1 p Q o S h)).congr (fun x=>?_)
    constructor
    · rintro ((h1|h1)|⟨p',h1,h2⟩)
      · exact .inl h1
      · exact .inr ⟨p,by simp,h1⟩
      · exact .inr ⟨p',by simp [h1],h2⟩
    · rintro (h1|⟨p',h1,h2⟩)
      · exact .inl (.inl h1)
      · rcases List.mem_cons.mp h1 with h3|h3
        · subst h3;exact .inl (.inr h2)
        · exact .inr ⟨p',h3,h2⟩
theorem Mx.none_:Mx none (fun _=>False):=.inl ⟨rfl,fun _ h=>h⟩
theorem Mx.uniq {o o':Option Int} {S S':Int→Prop} (h:Mx o S) (h':Mx o' S') (h1:∀ x,S x→∃ x',S' x'∧x≤x') (h2:∀ x,S' x→S x):o=o':=by
  rcases h with ⟨rfl,h⟩|⟨m,rfl,h3,h4⟩ <;> rcases h' with ⟨rfl,h'⟩|⟨m',rfl,h5,h6⟩
  · rfl
  · exact absurd (h2 _ h5) (h _)
  · obtain ⟨x',h7,_⟩:=h1 _ h3
    exact absurd h7 (h' _)
  · obtain ⟨x',h7,h8⟩:=h1 _ h3
    have h9:=h6 _ h7
    have h10:=h4 _ (h2 _ h5)
    congr 1;omega
def nei (hi lo:List Int):Nat→Nat→Option Int→Option Int
  | 0,_,o=>o
  | m+1,i,o=>nei hi lo m (i+1) (stp o (rd hi (i:Int)+2 - rd lo (i:Int)))
theorem Mx.nei (hi lo:List Int):∀ (m i:Nat) (o:Option Int) (S:Int→Prop),Mx o S→Mx (nei hi lo m i o) (fun y=>S y∨∃ j:Nat,i≤j∧j<i+m∧y=rd hi (j:Int)+2 - rd lo (j:Int)):=by
  intro m
  induction m with
  | zero=>intro i o S h;exact h.congr (fun x=>⟨fun h1=>.inl h1,fun h1=>h1.elim id (fun ⟨j,h2,h3,_⟩=>by omega)⟩)
  | succ m ih =>
    intro i o S h
    rw [Td.nei]
    refine (ih _ _ _ (h.stp _)).congr (fun x=>?_)
    constructor
    · rintro ((h1|h1)|⟨j,h1,h2,h3⟩)
      · exact .inl h1
      · exact .inr ⟨i,by omega,by omega,h1⟩
      · exact .inr ⟨j,by omega,by omega,h3⟩
    · rintro (h1|⟨j,h1,h2,h3⟩)
      · exact .inl (.inl h1)
      · by_cases e:j=i
        · subst e;exact .inl (.inr h3)
        · exact .inr ⟨j,by omega,by omega,h3⟩
structure LH (S:Int→Int→Prop) (lo hi:List Int):Prop where
  len:lo.length=hi.length
  dep:∀ d c,S d c→0≤d∧d<(lo.length:Int)
  lo1:∀ i:Nat,i<lo.length→S (i:Int) (rd lo (i:Int))
  lo2:∀ i:Nat,i<lo.length→∀ c,S (i:Int) c→rd lo (i:Int)≤c
  hi1:∀ i:Nat,i<lo.length→S (i:Int) (rd hi (i:Int))
  hi2:∀ i:Nat,i<lo.length→∀ c,S (i:Int) c→c≤rd hi (i:Int)
def On (P:List Pt) (d c:Int):Prop:=(d,c)∈P
theorem nei_ned {P Q:List Pt} {lo hi ol oh:List Int} (h:LH (On P) lo hi) (hq:LH (On Q) ol oh):nei hi ol (min hi.length ol.length) 0 none=ned Q P none:=by
  have h1:=Mx.ned Q P none _ Mx.none_
  have h2:=Mx.nei hi ol (min hi.length ol.length) 0 none _ Mx.none_
  refine (h1.uniq h2 ?_ ?_).symm
  · rintro x (h3|⟨p,hp,q,hqm,he,hx⟩)
    · exact h3.elim
    · have h4:=h.dep p.1 p.2 hp
      have h5:=hq.dep q.1 q.2 hqm
      have hl:=h.len
      obtain ⟨i,hi_⟩:=Int.eq_ofNat_of_zero_le h4.1
      have h6:=h.hi2 i (by omega) p.2 (by rw [← hi_];exact hp)
      have h7:=hq.lo2 i (by omega) q.2 (by rw [← hi_,he];exact hqm)
      exact ⟨_,.inr ⟨i,by omega,by omega,rfl⟩,by omega⟩
  · rintro x (h3|⟨j,_,h4,hx⟩)
    · exact h3.elim
    · have hl:=h.len
      exact .inr ⟨_,h.hi1 j (by omega),_,hq.lo1 j (by omega),rfl,hx⟩
theorem LH.step {S T:Int→Int→Prop} {lo hi lo' hi':List Int} {i:Nat} {x y:Int} (h:LH S lo hi) (hi0:i≤lo.length) (hx:T (i:Int) x) (hx2:∀ c,T (i:Int) c→x≤c) (hy:T (i:Int) y) (hy2:∀ c,T (i:Int) c→c≤y)
    (hl:lo'.length=max lo.length (i+1)) (hh:hi'.length=max lo.length (i+1)) (ho:∀ j:Nat,j<lo.length→j≠i→rd lo' (j:Int)=rd lo (j:Int)∧rd hi' (j:Int)=rd hi (j:Int))
    (hn:i<lo.length→rd lo' (i:Int)=min (rd lo (i:Int)) x∧rd hi' (i:Int)=max (rd hi (i:Int)) y) (hn2:i=lo.length→rd lo' (i:Int)=x∧rd hi' (i:Int)=y):LH (fun d c=>S d c∨(d=(i:Int)∧T d c)) lo' hi':=by
  have hS:∀ c,i=lo.length→¬ S (i:Int) c:=fun c e hc=>by have:=h.dep _ _ hc;omega
  refine ⟨by omega,?_,?_,?_,?_,?_⟩
  · rintro d c (h1|⟨h1,h2⟩)
    · have:=h.dep d c h1;omega
    · omega
  · intro j hj
    by_cases e:j=i
    · subst e
      by_cases hc:j<lo.length
      · rw [(hn hc).1]
        by_cases hm:rd lo (j:Int)≤x
        · rw [Int.min_eq_left hm];exact .inl (h.lo1 j hc)
        · rw [Int.min_eq_right (by omega)];exact .inr ⟨rfl,hx⟩
      · rw [(hn2 (by omega)).1];exact .inr ⟨rfl,hx⟩
    · rw [(ho j (by omega) e).1];exact .inl (h.lo1 j (by omega))
  · intro j hj c hc
    by_cases e:j=i
    · subst e
      by_cases hcl:j<lo.length
      · rw [(hn hcl).1]
        rcases hc with hc|⟨_,hc⟩
        · have:=h.lo2 j hcl c hc;omega
        · have:=hx2 c hc;omega
      · rw [(hn2 (by omega)).1]
        rcases hc with hc|⟨_,hc⟩
        · exact absurd hc (hS c (by omega))
        · exact hx2 c hc
    · rw [(ho j (by omega) e).1]
      rcases hc with hc|⟨hc,_⟩
      · exact h.lo2 j (by omega) c hc
      · omega
  · intro j hj
    by_cases e:j=i
    · subst e
      by_cases hc:j<lo.length
      · rw [(hn hc).2]
        by_cases hm:y≤rd hi (j:Int)
        · rw [Int.max_eq_left hm];exact .inl (h.hi1 j hc)
        · rw [Int.max_eq_right (by omega)];exact .inr ⟨rfl,hy⟩
      · rw [(hn2 (by omega)).2];exact .inr ⟨rfl,hy⟩
    · rw [(ho j (by omega) e).2];exact .inl (h.hi1 j (by omega))
  · intro j hj c hc
    by_cases e:j=i
    · subst e
      by_cases hcl:j<lo.length
      · rw [(hn hcl).2]
        rcases hc with hc|⟨_,hc⟩
        · have:=h.hi2 j hcl c hc;omega
        · have:=hy2 c hc;omega
      · rw [(hn2 (by omega)).2]
        rcases hc with hc|⟨_,hc⟩
        · exact absurd hc (hS c (by omega))
        · exact hy2 c hc
    · rw [(ho j (by omega) e).2]
      rcases hc with hc|⟨hc,_⟩
      · exact h.hi2 j (by omega) c hc
      · omega
theorem LH.congr {S T:Int→Int→Prop} {lo hi:List Int} (h:LH S lo hi) (he:∀ d c,S d c↔T d c):LH T lo hi :=
  ⟨h.len,fun d c hc=>h.dep d c ((he d c).mpr hc),fun i hi=>(he _ _).mp (h.lo1 i hi),fun i hi c hc=>h.lo2 i hi c ((he _ _).mpr hc),fun i hi=>(he _ _).mp (h.hi1 i hi),fun i hi c hc=>h.hi2 i hi c ((he _ _).mpr hc)⟩
theorem LH.nil:LH (On []) [] []:=⟨rfl,fun d c h=>by simp [On] at h,fun i h=>by simp at h,fun i h=>by simp at h,fun i h=>by simp at h,fun i h=>by simp at h⟩
theorem LH.tre {s:List Pt × List Int} {lo hi:List Int} (h:LH (On s.1) lo hi):LH (On (tre s)) (rt s.2 :: lo) (rt s.2 :: hi):=by
  have hr:∀ (x:Int) (l:List Int) (i:Nat),rd (x :: l) ((i+1:Nat):Int)=rd l (i:Int):=fun x l i=>by simp [rd,List.getD_eq_getElem?_getD]
  have h0:∀ (x:Int) (l:List Int),rd (x :: l) ((0:Nat):Int)=x:=fun x l=>by simp [rd]
  have hon:∀ d c,On (Td.tre s) d c↔(d=0∧c=rt s.2)∨On s.1 (d - 1) c:=fun d c=>by
    unfold On Td.tre
    rw [List.mem_cons,List.mem_map]
    constructor
    · rintro (h1|⟨p,h1,h2⟩)
      · simp only [Prod.mk.injEq] at h1;exact .inl h1
      · simp only [Prod.mk.injEq] at h2
        refine .inr ?_
        rw [← h2.1,← h2.2,show p.1+1 - 1=p.1 by omega];exact h1
    · rintro (⟨rfl,rfl⟩|h1)
      · exact .inl rfl
      · exact .inr ⟨(d - 1,c),h1,by simp⟩
  have hd0:∀ c,¬ On s.1 (-1) c:=fun c hc=>by have:=h.dep _ _ hc;omega
  refine ⟨by simp [h.len],?_,?_,?_,?_,?_⟩
  · intro d c hc
    rcases (hon d c).mp hc with h1|h1
    · simp;omega
    · have:=h.dep _ _ h1;simp;omega
  · intro i hi
    rw [hon]
    cases i with
    | zero=>rw [h0];exact .inl ⟨rfl,rfl⟩
    | succ i=>rw [hr];refine .inr ?_;rw [show ((i+1:Nat):Int) - 1=(i:Int) by omega];exact h.lo1 i (by simp at hi;omega)
  · intro i hi c hc
    rcases (hon _ _).mp hc with h1|h1
    · cases i with
      | zero=>rw [h0];omega
      | succ i=>omega
    · cases i with
      | zero=>exact absurd h1 (hd0 c)
      | succ i=>rw [hr];exact h.lo2 i (by simp at hi;omega) c (by rwa [show ((i+1:Nat):Int) - 1=(i:Int) by omega] at h1)
  · intro i hi
    rw [hon]
    cases i with
    | zero=>rw [h0];exact .inl ⟨rfl,rfl⟩
    | succ i=>rw [hr];refine .inr ?_;rw [show ((i+1:Nat):Int) - 1=(i:Int) by omega];exact h.hi1 i (by simp at hi;omega)
  · intro i hi c hc
    rcases (hon _ _).mp hc with h1|h1
    · cases i with
      | zero=>rw [h0];omega
      | succ i=>omega
    · cases i with
      | zero=>exact absurd h1 (hd0 c)
      | succ i=>rw [hr];exact h.hi2 i (by simp at hi;omega) c (by rwa [show ((i+1:Nat):Int) - 1=(i:Int) by omega] at h1)
theorem depths_succ (g:F):∀ k,g.depths (k+1)=(g.depths k).map (·+1):=by
  induction g with
  | nil=>intro k;rfl
  | cons b n hb hn=>intro k;simp [F.depths,hb,hn]
theorem pl_depths:∀ (g:F) (s:List Pt × List Int),(pl g s).1.map Prod.fst=s.1.map Prod.fst++g.depths 0:=by
  intro g
  induction g with
  | nil=>intro s;simp [pl,F.depths]
  | cons b n hb hn =>
    intro s
    rw [pl,hn,F.depths]
    have h1:=hb ([],[])
    simp only [List.map_nil,List.nil_append] at h1
    have h2:∀ (l:List Pt),(l.map fun p=>(p.1+1,p.2)).map Prod.fst=(l.map Prod.fst).map (·+1):=fun l=>by simp [Function.comp_def]
    have h3:∀ (x:Int) (l:List Pt),(shf x l).map Prod.fst=l.map Prod.fst:=fun x l=>by simp [shf,Function.comp_def]
    rw [List.map_append,h3,tre,List.map_cons,h2,h1,← depths_succ]
    simp
theorem pl_len (g:F) (s:List Pt × List Int):(pl g s).1.length=s.1.length+g.size:=by
  have h:=congrArg List.length (pl_depths g s)
  simpa [F.depths_len] using h
def Bd (M:Int) (l:List Int):Prop:=∀ x∈l,-M≤x∧x≤M
theorem pow_ge (n:Nat):(1:Int)≤4 ^ n:=by
  induction n with
  | zero=>simp
  | succ n ih=>rw [Int.pow_succ];omega
theorem rd_in {l:List Int} {M:Int} (h:Bd M l) (hM:0≤M) (i:Int):-M≤rd l i∧rd l i≤M:=by
  unfold rd
  rw [List.getD_eq_getElem?_getD]
  cases hl:l[i.toNat]? with
  | none=>simp;omega
  | some x=>simpa using h x (List.mem_of_getElem? hl)
theorem rt_in {R:List Int} {M:Int} (h:Bd M R) (hM:0≤M):-M≤rt R∧rt R≤M:=by
  have h1:=rd_in h hM 0
  have h2:=rd_in h hM ((R.length:Int) - 1)
  unfold rt
  split
  · omega
  · omega
theorem mv_in {P Q:List Pt} {A B:Int} (hP:Bd A (P.map Prod.snd)) (hQ:Bd B (Q.map Prod.snd)) (hA:0≤A) (hB:0≤B):(P=[]→mv P Q=0)∧-(A+B+2)≤mv P Q∧mv P Q≤A+B+2:=by
  refine ⟨fun e=>by subst e;rfl,?_⟩
  unfold mv
  rcases Mx.ned Q P none _ Mx.none_ with ⟨h1,_⟩|⟨m,h1,h2,_⟩
  · rw [h1];simp;omega
  · rw [h1]
    rcases h2 with h2|⟨p,hp,q,hq,_,hm⟩
    · exact h2.elim
    · have h3:=hP p.2 (List.mem_map.mpr ⟨p,hp,rfl⟩)
      have h4:=hQ q.2 (List.mem_map.mpr ⟨q,hq,rfl⟩)
      simp only [Option.getD_some];omega
def Ok (s:List Pt × List Int):Prop:=Bd (4 ^ s.1.length) (s.1.map Prod.snd)∧Bd (4 ^ s.1.length) s.2∧(s.1=[]→s.2=[])
theorem tre_in {s:List Pt × List Int} (h:Ok s):Bd (4 ^ s.1.length) ((tre s).map Prod.snd):=by
  have h1:=pow_ge s.1.length
  have h2:=rt_in h.2.1 (by omega)
  intro x hx
  have h3:∀ (l:List Pt),(l.map fun p=>(p.1+1,p.2)).map Prod.snd=l.map Prod.snd:=fun l=>by simp [Function.comp_def]
  rw [tre,List.map_cons,h3] at hx
  rcases List.mem_cons.mp hx with hx|hx
  · rw [hx];exact h2
  · exact h.1 x hx
theorem ok_add {s u:List Pt × List Int} (h:Ok s) (hu:Ok u):Ok (s.1++shf (mv s.1 (tre u)) (tre u),s.2++[rt u.2+mv s.1 (tre u)]):=by
  have ht:=tre_in hu
  have hl:(tre u).length=u.1.length+1:=by simp [tre]
  have hsl:(shf (mv s.1 (tre u)) (tre u)).length=u.1.length+1:=by simp [shf,hl]
  have hA:=pow_ge s.1.length
  have hB:=pow_ge u.1.length
  have hm:=mv_in h.1 ht (by omega) (by omega)
  have hr:=rt_in hu.2.1 (by omega)
  have e4:(4:Int) ^ (s.1.length+(u.1.length+1))=4 ^ s.1.length*4 ^ u.1.length*4:=by rw [Int.pow_add,Int.pow_succ,Int.mul_assoc]
  have hall:∀ x,-(4 ^ u.1.length)≤x→x≤4 ^ u.1.length→-(4 ^ s.1.length*4 ^ u.1.length*4)≤x+mv s.1 (tre u)∧x+mv s.1 (tre u)≤4 ^ s.1.length*4 ^ u.1.length*4:=by
    intro x h1 h2
    by_cases e:s.1=[]
    · rw [hm.1 e,e];simp;omega
    · have hs1:1≤s.1.length:=by
        cases hc:s.1 with
        | nil=>exact absurd hc e
        | cons a l=>simp
      have hA4:(4:Int)≤4 ^ s.1.length:=by
        obtain ⟨k,hk⟩:∃ k,s.1.length=k+1:=⟨s.1.length - 1,by omega⟩
        rw [hk,Int.pow_succ];have:=pow_ge k;omega
      have hp:=Int.mul_nonneg (show 0≤(4:Int) ^ s.1.length - 4 by omega) (show 0≤(4:Int) ^ u.1.length - 1 by omega)
      rw [Int.sub_mul,Int.mul_sub] at hp
      generalize (4:Int) ^ s.1.length*4 ^ u.1.length=z at hp ⊢
      omega
  have hmono:∀ x,-(4 ^ s.1.length)≤x→x≤4 ^ s.1.length→-(4 ^ s.1.length*4 ^ u.1.length*4)≤x∧x≤4 ^ s.1.length*4 ^ u.1.length*4:=by
    intro x h1 h2
    have hp:=Int.mul_nonneg (show 0≤(4:Int) ^ s.1.length by omega) (show 0≤(4:Int) ^ u.1.length - 1 by omega)
    rw [Int.mul_sub] at hp
    generalize (4:Int) ^ s.1.length*4 ^ u.1.length=z at hp ⊢
    omega
  have hshf:∀ (y:Int) (l:List Pt),(shf y l).map Prod.snd=(l.map Prod.snd).map (·+y):=fun y l=>by simp [shf,Function.comp_def]
  refine ⟨?_,?_,?_⟩
  · intro x hx
    simp only [List.length_append,hsl,e4]
    simp only [List.map_append,hshf] at hx
    rcases List.mem_append.mp hx with hx|hx
    · exact hmono x (h.1 x hx).1 (h.1 x hx).2
    · obtain ⟨y,hy,rfl⟩:=List.mem_map.mp hx
      exact hall y (ht y hy).1 (ht y hy).2
  · intro x hx
    simp only [List.length_append,hsl,e4]
    rcases List.mem_append.mp hx with hx|hx
    · exact hmono x (h.2.1 x hx).1 (h.2.1 x hx).2
    · rw [List.mem_singleton] at hx
      subst hx
      exact hall _ hr.1 hr.2
  · intro e
    simp only at e
    have:=congrArg List.length e
    rw [List.length_append,hsl] at this
    simp at this
theorem ok_nil:Ok ([],[]):=⟨by intro x hx;simp at hx,by intro x hx;simp at hx,fun _=>rfl⟩
theorem ok_pl:∀ (g:F) (s:List Pt × List Int),Ok s→Ok (pl g s):=by
  intro g
  induction g with
  | nil=>intro s h;exact h
  | cons b n hb hn=>intro s h;rw [pl];exact hn _ (ok_add h (hb _ ok_nil))
theorem depths_lt:∀ (g:F) (k x:Int),x∈g.depths k→k≤x∧x<k+g.size:=by
  intro g
  induction g with
  | nil=>intro k x h;simp [F.depths] at h
  | cons b n hb hn =>
    intro k x h
    simp only [F.depths,List.mem_cons,List.mem_append] at h
    simp only [F.size]
    rcases h with h|h|h
    · omega
    · have:=hb _ _ h;omega
    · have:=hn _ _ h;omega
theorem tre_dep {b:F} {p:Pt} (h:p∈tre (pl b ([],[]))):0≤p.1∧p.1≤b.size:=by
  rw [tre] at h
  rcases List.mem_cons.mp h with h|h
  · rw [h];simp
  · obtain ⟨q,hq,rfl⟩:=List.mem_map.mp h
    have h1:=pl_depths b ([],[])
    have h2:q.1∈b.depths 0:=by
      have:q.1∈(pl b ([],[])).1.map Prod.fst:=List.mem_map.mpr ⟨q,hq,rfl⟩
      rw [h1] at this;simpa using this
    have:=depths_lt b 0 _ h2
    simp only;omega
theorem LH.few {P:List Pt} {lo hi:List Int} (h:LH (On P) lo hi) {M:Nat} (hb:∀ p∈P,p.1≤(M:Int)):lo.length≤M+1:=by
  by_cases h0:lo.length=0
  · omega
  · have:=hb _ (h.lo1 (lo.length - 1) (by omega))
    simp only at this;omega
theorem shf_mem {b:Int} {Q:List Pt} {p:Pt} (h:p∈shf b Q):∃ q∈Q,p.1=q.1:=by
  obtain ⟨q,hq,rfl⟩:=List.mem_map.mp h
  exact ⟨q,hq,rfl⟩
theorem shf_snd (b:Int) (Q:List Pt):(shf b Q).map Prod.snd=(Q.map Prod.snd).map (·+b):=by simp [shf,Function.comp_def]
theorem shf_fst (b:Int) (Q:List Pt):(shf b Q).map Prod.fst=Q.map Prod.fst:=by simp [shf,Function.comp_def]
theorem tre_fst (b:F):(tre (pl b ([],[]))).map Prod.fst=0 :: b.depths 1:=by
  have h1:=pl_depths b ([],[])
  simp only [List.map_nil,List.nil_append] at h1
  have h2:∀ (l:List Pt),(l.map fun p=>(p.1+1,p.2)).map Prod.fst=(l.map Prod.fst).map (·+1):=fun l=>by simp [Function.comp_def]
  have h3:=depths_succ b 0
  rw [show (0:Int)+1=1 by omega] at h3
  rw [tre,List.map_cons,h2,h1,h3]
theorem pow_small {n:Nat} (h:n≤24):(4:Int) ^ n≤281474976710656:=by
  have:(4:Int) ^ n≤4 ^ 24:=by
    obtain ⟨k,hk⟩:∃ k,24=n+k:=⟨24 - n,by omega⟩
    rw [hk,Int.pow_add]
    have h1:=pow_ge n
    have h2:=pow_ge k
    have:=Int.mul_le_mul_of_nonneg_left h2 (show 0≤(4:Int) ^ n by omega)
    omega
  exact Int.le_trans this (by decide)
theorem Bd.mono {M M':Int} {l:List Int} (h:Bd M l) (hm:M≤M'):Bd M' l:=fun x hx=>by have:=h x hx;omega
end Go.Proofs.Ytimfbpmaepmdoaa.Td
namespace Go.Proofs.Ytimfbpmaepmdoaa.Td
open Go.RowKit Go.Proofs.YtimfbpmaepmdoaaW.PrintWords Go.Proofs.Ytimfbpmaepmdoaa.Tr
set_option linter.unusedSimpArgs false
set_option linter.unusedVariables false
structure Wd (s:List Pt × List Int) (a b:Int):Prop where
  all:∀ p∈s.1,a≤p.2∧p.2≤b
  top:∀ x∈s.2,a≤x∧x≤b
  few:b - a≤2*(s.1.length:Int)
  ord:a≤b
  no:s.1=[]→s.2=[]
  so:s.1≠[]→s.2≠[]∧∃ p∈s.1,p.1=0
theorem wd_nil:Wd ([],[]) 0 0:=⟨fun p h=>by simp at h,fun p h=>by simp at h,by simp,by omega,fun _=>rfl,fun h=>absurd rfl h⟩
theorem rt_mid {R:List Int} {a b:Int} (h:∀ x∈R,a≤x∧x≤b) (hn:R≠[]):a≤rt R∧rt R≤b:=by
  have hl:0<R.length:=by
    cases R with
    | nil=>exact absurd rfl hn
    | cons x R=>simp
  have h1:=h _ (rd_mem (l:=R) (i:=0) (by omega) (by omega))
  have h2:=h _ (rd_mem (l:=R) (i:=(R.length:Int) - 1) (by omega) (by omega))
  unfold rt
  rw [if_neg hn]
  omega
theorem wd_tre {s:List Pt × List Int} {a b:Int} (h:Wd s a b):∃ a' b',(∀ p∈tre s,a'≤p.2∧p.2≤b')∧b' - a'≤2*(s.1.length:Int)∧a'≤b':=by
  by_cases e:s.1=[]
  · have e2:=h.no e
    refine ⟨0,0,fun p hp=>?_,by omega,by omega⟩
    rw [tre,e,e2] at hp
    simp only [List.map_nil,List.mem_cons,List.mem_nil_iff,or_false] at hp
    subst hp
    simp [rt]
  · have h2:=rt_mid h.top (h.so e).1
    refine ⟨a,b,fun p hp=>?_,h.few,h.ord⟩
    rw [tre] at hp
    rcases List.mem_cons.mp hp with rfl|hp
    · exact h2
    · obtain ⟨q,hq,rfl⟩:=List.mem_map.mp hp
      exact h.all q hq
theorem mem_shf {m:Int} {Q:List Pt} {p:Pt} (h:p∈shf m Q):∃ q∈Q,p=(q.1,q.2+m):=by
  unfold shf at h
  obtain ⟨q,hq,rfl⟩:=List.mem_map.mp h
  exact ⟨q,hq,rfl⟩
theorem mv_at {P:List Pt} {u:List Pt × List Int} (hp:∃ p∈P,p.1=0):(∃ p∈P,∃ q∈tre u,p.1=q.1∧mv P (tre u)=p.2+2 - q.2)∧∀ p∈P,∀ q∈tre u,p.1=q.1→p.2+2≤q.2+mv P (tre u):=by
  obtain ⟨p0,hp0,e0⟩:=hp
  have hr:((0,rt u.2):Pt)∈tre u:=by rw [tre];exact List.mem_cons_self ..
  unfold mv
  rcases Mx.ned (tre u) P none _ Mx.none_ with ⟨h1,h2⟩|⟨m,h1,h2,h3⟩
  · exact absurd (.inr ⟨p0,hp0,_,hr,e0,rfl⟩) (h2 _)
  · rw [h1]
    refine ⟨?_,fun p hp q hq e=>?_⟩
    · rcases h2 with h2|⟨p,hp,q,hq,e,hm⟩
      · exact h2.elim
      · exact ⟨p,hp,q,hq,e,hm⟩
    · have:=h3 _ (.inr ⟨p,hp,q,hq,e,rfl⟩)
      simp only [Option.getD_some];omega
theorem wd_add {s u:List Pt × List Int} {a b c d:Int} (h:Wd s a b) (hu:Wd u c d):∃ a' b',Wd (s.1++shf (mv s.1 (tre u)) (tre u),s.2++[rt u.2+mv s.1 (tre u)]) a' b':=by
  obtain ⟨c',d',t1,t2,t3⟩:=wd_tre hu
  have hr:((0,rt u.2):Pt)∈tre u:=by rw [tre];exact List.mem_cons_self ..
  have hrt:=t1 _ hr
  have hrs:((0,rt u.2+mv s.1 (tre u)):Pt)∈shf (mv s.1 (tre u)) (tre u):=List.mem_map.mpr ⟨_,hr,rfl⟩
  have hl:(s.1++shf (mv s.1 (tre u)) (tre u)).length=s.1.length+u.1.length+1:=by simp [shf,tre];omega
  have hne:s.1++shf (mv s.1 (tre u)) (tre u)≠[]:=by intro e;rw [e] at hl;simp at hl
  have hso:s.2++[rt u.2+mv s.1 (tre u)]≠[]∧∃ p∈s.1++shf (mv s.1 (tre u)) (tre u),p.1=0:=⟨by simp,_,List.mem_append_right _ hrs,rfl⟩
  by_cases e:s.1=[]
  · have e2:=h.no e
    have hm:mv s.1 (tre u)=0:=by rw [e];rfl
    refine ⟨c',d',⟨fun p hp=>?_,fun x hx=>?_,by rw [hl];omega,t3,fun h=>absurd h hne,fun _=>hso⟩⟩
    · rw [e,List.nil_append] at hp
      obtain ⟨q,hq,rfl⟩:=mem_shf hp
      have:=t1 q hq
      rw [← e,hm]
      simpa using this
    · rw [e2,hm] at hx
      simp only [List.nil_append,List.mem_singleton] at hx
      simp only at hrt
      omega
  · obtain ⟨⟨p,hp,q,hq,-,hm⟩,-⟩:=mv_at (u:=u) (h.so e).2
    have h1:=h.all p hp
    have h2:=t1 q hq
    have h3:=h.few
    have h4:=h.ord
    generalize mv s.1 (tre u)=m at *
    refine ⟨min a (c'+m),max b (d'+m),⟨fun p hp=>?_,fun x hx=>?_,by rw [hl];omega,by omega,fun h=>absurd h hne,fun _=>hso⟩⟩
    · rcases List.mem_append.mp hp with hp|hp
      · have:=h.all p hp;omega
      · obtain ⟨q,hq,rfl⟩:=mem_shf hp
        have:=t1 q hq
        simp only;omega
    · rcases List.mem_append.mp hx with hx|hx
      · have:=h.top x hx;omega
      · rw [List.mem_singleton] at hx
        simp only at hrt
        omega
theorem wd_pl:∀ (g:F) (s:List Pt × List Int) (a b:Int),Wd s a b→∃ a' b',Wd (pl g s) a' b':=by
  intro g
  induction g with
  | nil=>intro s a b h;exact ⟨a,b,h⟩
  | cons b n hb hn =>
    intro s x y h
    obtain ⟨c,d,h1⟩:=hb _ _ _ wd_nil
    obtain ⟨x',y',h2⟩:=wd_add h h1
    rw [pl]
    exact hn _ _ _ h2
theorem tre_wide (b:F):∃ lo hi:Int,(∀ x∈(tre (pl b ([],[]))).map Prod.snd,lo≤x∧x≤hi)∧hi - lo≤2*(b.size:Int):=by
  obtain ⟨x,y,h⟩:=wd_pl b _ _ _ wd_nil
  obtain ⟨lo,hi,h1,h2,_⟩:=wd_tre h
  have hl:=pl_len b ([],[])
  refine ⟨lo,hi,fun z hz=>?_,by simp at hl;omega⟩
  obtain ⟨p,hp,rfl⟩:=List.mem_map.mp hz
  exact h1 p hp
end Go.Proofs.Ytimfbpmaepmdoaa.Td
namespace Go.Proofs.Ytimfbpmaepmdoaa.Td
open Go.RowKit Go.Proofs.YtimfbpmaepmdoaaW.PrintWords Go.Proofs.Ytimfbpmaepmdoaa.Tr
set_option linter.unusedSimpArgs false
set_option linter.unusedVariables false
def Sep (P:List Pt):Prop:=P.Pairwise (fun p q=>p.1=q.1→p.2+2≤q.2)
structure Sp (s:List Pt × List Int):Prop where
  sep:Sep s.1
  pos:∀ p∈s.1,0≤p.1
  so:s.1≠[]→∃ p∈s.1,p.1=0
theorem sp_tre {s:List Pt × List Int} (h:Sp s):Sep (tre s)∧∀ p∈tre s,0≤p.1:=by
  unfold tre Sep
  refine ⟨List.pairwise_cons.2 ⟨fun q hq e=>?_,List.pairwise_map.2 (h.sep.imp (fun {a b} hab e=>hab (by omega)))⟩,fun p hp=>?_⟩
  · obtain ⟨p,hp,rfl⟩:=List.mem_map.mp hq
    have:=h.pos p hp
    simp only at e;omega
  · rcases List.mem_cons.mp hp with rfl|hp
    · exact Int.le_refl _
    · obtain ⟨q,hq,rfl⟩:=List.mem_map.mp hp
      have:=h.pos q hq
      simp only;omega
theorem sp_add {s u:List Pt × List Int} (h:Sp s) (hu:Sp u):Sp (s.1++shf (mv s.1 (tre u)) (tre u),s.2++[rt u.2+mv s.1 (tre u)]):=by
  obtain ⟨t1,t2⟩:=sp_tre hu
  have hr:((0,rt u.2+mv s.1 (tre u)):Pt)∈shf (mv s.1 (tre u)) (tre u):=List.mem_map.mpr ⟨(0,rt u.2),by rw [tre];exact List.mem_cons_self ..,rfl⟩
  refine ⟨?_,fun p hp=>?_,fun _=>⟨_,List.mem_append_right _ hr,rfl⟩⟩
  · refine List.pairwise_append.2 ⟨h.sep,?_,fun p hp q hq e=>?_⟩
    · unfold shf
      exact List.pairwise_map.2 (t1.imp (fun {a b} hab e=>by have:=hab e;simp only;omega))
    · obtain ⟨z,hz,rfl⟩:=mem_shf hq
      exact (mv_at (h.so (fun e2=>by rw [e2] at hp;simp at hp))).2 p hp z hz e
  · rcases List.mem_append.mp hp with hp|hp
    · exact h.pos p hp
    · obtain ⟨q,hq,rfl⟩:=mem_shf hp
      exact t2 q hq
theorem sp_pl:∀ (g:F) (s:List Pt × List Int),Sp s→Sp (pl g s):=by
  intro g
  induction g with
  | nil=>intro s h;exact h
  | cons b n hb hn=>intro s h;rw [pl];exact hn _ (sp_add h (hb _ ⟨List.Pairwise.nil,fun p hp=>by simp at hp,fun h=>absurd rfl h⟩))
theorem tidy_sep (b:F) (m:Int) {i j:Nat} (hij:i<j) (hj:j<b.size+1) (hd:rd (0 :: b.depths 1) (i:Int)=rd (0 :: b.depths 1) (j:Int)):rd (((tre (pl b ([],[]))).map Prod.snd).map (· - m)) (i:Int)+2≤rd (((tre (pl b ([],[]))).map Prod.snd).map (· - m)) (j:Int):=by
  have hs:=(sp_tre (sp_pl b ([],[]) ⟨List.Pairwise.nil,fun p hp=>by simp at hp,fun h=>absurd rfl h⟩)).1
  have hl:=pl_len b ([],[])
  have hl2:(tre (pl b ([],[]))).length=b.size+1:=by simp [tre] at hl ⊢;omega
  rw [← tre_fst] at hd
  generalize tre (pl b ([],[]))=P at hs hl2 hd ⊢
  rw [rd_getElem (by simp;omega),rd_getElem (by simp;omega),List.getElem_map,List.getElem_map] at hd
  rw [rd_getElem (by simp;omega),rd_getElem (by simp;omega),List.getElem_map,List.getElem_map,List.getElem_map,List.getElem_map]
  have:=(List.pairwise_iff_getElem.1 hs) i j (by omega) (by omega) hij hd
  omega
def lb (d:List Int) (v:Nat):Nat:=((d.take v).filter (fun x=>decide (x=0))).length
theorem lb_succ {d:List Int} {v:Nat} (h:v<d.length):lb d (v+1)=lb d v+(if rd d (v:Int)=0 then 1 else 0):=by
  unfold lb
  rw [List.take_succ_eq_append_getElem h,List.filter_append,List.length_append,← rd_getElem h]
  by_cases e:rd d (v:Int)=0
  · rw [if_pos e,List.filter_cons_of_pos (by simpa using e)];rfl
  · rw [if_neg e,List.filter_cons_of_neg (by simpa using e)];rfl
theorem lb_mono (d:List Int) {v w:Nat} (h:v≤w):lb d v≤lb d w:=by
  unfold lb
  have e:d.take v=(d.take w).take v:=by rw [List.take_take,Nat.min_eq_left h]
  rw [e]
  exact ((List.take_sublist v (d.take w)).filter _).length_le
structure Even (d:List Int) (t:F) (r:List Int):Prop where
  len:r.length=t.size
  leaf:∀ v:Nat,v<t.size→rd d (v:Int)=0→rd r (v:Int)=2*(lb d v:Int)
  mid:∀ v:Nat,v<t.size→¬ rd d (v:Int)=0→rd r (v:Int)=(rd r (rd ((t.sub v).roots (v+1)) 0)+rd r (rd ((t.sub v).roots (v+1)) ((((t.sub v).roots (v+1)).length:Int) - 1))) / 2
theorem sub_sub:∀ (g:F) (v w:Nat),v<g.size→w<(g.sub v).size→(g.sub v).sub w=g.sub (v+1+w):=by
  intro g
  induction g with
  | nil=>intro v w h _;simp [F.size] at h
  | cons b n hb hn =>
    intro v w h1 h2
    simp only [F.size] at h1
    by_cases e:v=0
    · subst e
      rw [F.sub_zero] at h2 ⊢
      rw [F.sub_left (by omega) (by omega)]
      congr 1;omega
    · by_cases h3:v<1+b.size
      · have h4:=F.sub_fits b (v - 1) (by omega)
        rw [F.sub_left (by omega) h3] at h2 ⊢
        rw [hb (v - 1) w (by omega) h2,F.sub_left (by omega) (by omega)]
        congr 1;omega
      · rw [F.sub_right (by omega)] at h2 ⊢
        rw [hn _ w (by omega) h2,F.sub_right (by omega)]
        congr 1;omega
theorem kid_fit {d:List Int} {t:F} (h:Tree d t) {v:Nat} (hv:v<t.size) {c:Int} (hc:c∈(t.sub v).roots (v+1)):∃ w:Nat,c=w∧v<w∧w<t.size∧w+1+(t.sub w).size≤v+1+(t.sub v).size:=by
  have h1:=F.roots_range _ _ _ hc
  obtain ⟨w,rfl⟩:=Int.eq_ofNat_of_zero_le (a:=c) (by omega)
  have h3:=h.fits hv
  have h4:=sub_sub t v (w - (v+1)) hv (by omega)
  have h2:=F.sub_fits (t.sub v) (w - (v+1)) (by omega)
  rw [h4,show v+1+(w - (v+1))=w by omega] at h2
  exact ⟨w,rfl,by omega,by omega,by omega⟩
theorem even_in {d:List Int} {t:F} (h:Tree d t) {r:List Int} (hr:Even d t r):∀ (m v:Nat),v+m=t.size→v<t.size→2*(lb d v:Int)≤rd r (v:Int)∧rd r (v:Int)+2≤2*(lb d (v+1+(t.sub v).size):Int):=by
  intro m
  induction m using Nat.strongRecOn with
  | ind m ih =>
    intro v hm hv
    have hdeg:=h.deg hv
    have hlen:=h.len
    by_cases e:rd d (v:Int)=0
    · have h1:=hr.leaf v hv e
      have h2:=lb_succ (d:=d) (v:=v) (by omega)
      rw [if_pos e] at h2
      have h3:=lb_mono d (show v+1≤v+1+(t.sub v).size by omega)
      omega
    · have h1:=hr.mid v hv e
      have hl:((t.sub v).roots (v+1)).length=(t.sub v).len:=F.roots_len _ _
      have m0:rd ((t.sub v).roots (v+1)) 0∈(t.sub v).roots (v+1):=rd_mem (by omega) (by omega)
      have m1:rd ((t.sub v).roots (v+1)) ((((t.sub v).roots (v+1)).length:Int) - 1)∈(t.sub v).roots (v+1):=rd_mem (by omega) (by omega)
      obtain ⟨a,ea,a1,a2,a3⟩:=kid_fit h hv m0
      obtain ⟨b,eb,b1,b2,b3⟩:=kid_fit h hv m1
      rw [ea,eb] at h1
      have h2:=ih (t.size - a) (by omega) a (by omega) a2
      have h3:=ih (t.size - b) (by omega) b (by omega) b2
      have h4:=lb_mono d (show v≤a by omega)
      have h5:=lb_mono d (show v≤b by omega)
      have h6:=lb_mono d a3
      have h7:=lb_mono d b3
      omega
theorem rd_tl (x:Int) (l:List Int) (i:Nat):rd (x :: l) ((i+1:Nat):Int)=rd l (i:Int):=rd_app [x] l i |> fun h=>by simpa [Nat.add_comm] using h
theorem dep_in:∀ (g:F) (k:Int) (v w:Nat),v<w→v<g.size→w<v+1+(g.sub v).size→rd (g.depths k) (v:Int)<rd (g.depths k) (w:Int):=by
  intro g
  induction g with
  | nil=>intro k v w _ h _;simp [F.size] at h
  | cons b n hb hn =>
    intro k v w h1 h2 h3
    simp only [F.size] at h2
    obtain ⟨w',rfl⟩:∃ w',w=w'+1:=⟨w - 1,by omega⟩
    rw [F.depths,rd_tl]
    have hbl:(b.depths (k+1)).length=b.size:=F.depths_len _ _
    have hnl:(n.depths k).length=n.size:=F.depths_len _ _
    by_cases e:v=0
    · subst e
      rw [F.sub_zero] at h3
      rw [show ((0:Nat):Int)=0 from rfl,rd_cons0,rd_left _ _ _ (by omega) (by omega)]
      have:=depths_lt b (k+1) _ (rd_mem (l:=b.depths (k+1)) (i:=(w':Int)) (by omega) (by omega))
      omega
    · obtain ⟨v',rfl⟩:∃ v',v=v'+1:=⟨v - 1,by omega⟩
      rw [rd_tl]
      by_cases h4:v'+1<1+b.size
      · have h5:=F.sub_fits b v' (by omega)
        rw [F.sub_left (by omega) h4,Nat.add_sub_cancel] at h3
        rw [rd_left _ _ _ (by omega) (by omega),rd_left _ _ _ (by omega) (by omega)]
        exact hb (k+1) v' w' (by omega) (by omega) (by omega)
      · rw [F.sub_right (by omega)] at h3
        have e1:((v':Nat):Int)=(((b.depths (k+1)).length+(v' - b.size):Nat):Int):=by omega
        have e2:((w':Nat):Int)=(((b.depths (k+1)).length+(w' - b.size):Nat):Int):=by omega
        rw [e1,e2,rd_app,rd_app]
        exact hn k (v' - b.size) (w' - b.size) (by omega) (by omega) (by rw [show v'+1 - 1 - b.size=v' - b.size by omega] at h3;omega)
theorem even_sep {d:List Int} {t:F} (h:Tree d t) {r:List Int} (hr:Even d t r) {i j:Nat} (hij:i<j) (hj:j<t.size) (hd:rd (t.depths 0) (i:Int)=rd (t.depths 0) (j:Int)):rd r (i:Int)+2≤rd r (j:Int):=by
  have h1:=even_in h hr (t.size - i) i (by omega) (by omega)
  have h2:=even_in h hr (t.size - j) j (by omega) hj
  have h3:¬ j<i+1+(t.sub i).size:=fun hc=>by
    have:=dep_in t 0 i j hij (by omega) hc
    omega
  have h4:=lb_mono d (show i+1+(t.sub i).size≤j by omega)
  omega
end Go.Proofs.Ytimfbpmaepmdoaa.Td
namespace Go.Proofs.Ytimfbpmaepmdoaa.Pj
open Go.RowKit Go.Proofs.YtimfbpmaepmdoaaW.PrintWords Go.Proofs.YtimfbpmaepmdoaaW.PrintMore Go.Proofs.Ytimfbpmaepmdoaa.Tr
set_option linter.unusedSimpArgs false
set_option linter.unusedVariables false
def mark (C D:List Int) (dep:Int):Nat→Nat→List Int→List Int
  | 0,_,r=>r
  | m+1,i,r=>mark C D dep m (i+1) (if rd D (i:Int)=dep then r.set (rd C (i:Int)).toNat 111 else r)
theorem mark_len (C D:List Int) (dep:Int):∀ m i r,(mark C D dep m i r).length=r.length:=by
  intro m
  induction m with
  | zero=>intro i r;rfl
  | succ m ih=>intro i r;rw [mark,ih];split <;> simp
def row (C D:List Int) (W:Nat) (dep:Nat):ByteArray:=strOfNums (mark C D dep C.length 0 (List.replicate W 46))
def rows (C D:List Int) (W:Nat) (m:Nat):List ByteArray:=(List.range m).map (row C D W)
theorem rows_succ (C D:List Int) (W m:Nat):rows C D W (m+1)=rows C D W m++[row C D W m]:=by simp [rows,List.range_succ]
theorem rows_len (C D:List Int) (W m:Nat):(rows C D W m).length=m:=by simp [rows]
theorem row_size (C D:List Int) (W dep:Nat):(row C D W dep).size=W:=by rw [row,strOfNums_size,mark_len];simp
def J (R:List ByteArray):ByteArray:=⟨(Lib.join (R.map (·.data.toList)) [47]).toArray⟩
theorem join_snoc (sep:List UInt8):∀ (xs:List (List UInt8)) (y:List UInt8),xs≠[]→Lib.join (xs++[y]) sep=Lib.join xs sep++sep++y:=by
  intro xs
  induction xs with
  | nil=>intro y h;exact absurd rfl h
  | cons x xs ih =>
    intro y _
    cases xs with
    | nil=>simp [Lib.join,List.intercalate]
    | cons z zs =>
      have h:=ih y (by simp)
      have e:∀ (p q:List UInt8) (r:List (List UInt8)),Lib.join (p :: q :: r) sep=p++sep++Lib.join (q :: r) sep:=fun p q r=>by simp [Lib.join,List.intercalate]
      rw [List.cons_append,List.cons_append,e,e]
      rw [List.cons_append] at h
      rw [h];simp
theorem J_one (s:ByteArray):(⟨#[]⟩:ByteArray)++s=J [s]:=by
  apply ByteArray.ext
  simp [J,Lib.join_one]
theorem J_snoc {R:List ByteArray} (s:ByteArray) (h:R≠[]):(J R++(⟨#[47]⟩:ByteArray))++s=J (R++[s]):=by
  apply ByteArray.ext
  have h2:=join_snoc [47] (R.map (·.data.toList)) s.data.toList (by simpa using h)
  simp only [J,List.map_append,List.map_cons,List.map_nil,ByteArray.data_append]
  rw [h2]
  simp
theorem J_size_snoc {R:List ByteArray} (s:ByteArray):(J (R++[s])).size≤(J R).size+1+s.size:=by
  by_cases h:R=[]
  · subst h
    rw [List.nil_append,← J_one,ByteArray.size_append]
    have:(⟨#[]⟩:ByteArray).size=0:=rfl
    omega
  · rw [← J_snoc s h]
    simp only [ByteArray.size_append]
    exact Nat.le_refl _
theorem J_rows_size (C D:List Int) (W:Nat):∀ m,(J (rows C D W m)).size≤m*(W+1):=by
  intro m
  induction m with
  | zero=>simp [rows,J,Lib.join,List.intercalate,ByteArray.size]
  | succ m ih =>
    rw [rows_succ]
    have:=J_size_snoc (R:=rows C D W m) (row C D W m)
    rw [row_size] at this
    rw [Nat.succ_mul];omega
theorem repeat_dot:∀ n,Lib.repeatL [46] n=List.replicate n 46:=by
  intro n
  induction n with
  | zero=>rfl
  | succ n ih=>rw [Lib.repeatL,ih];rfl
theorem bytesOf_dots (n:Nat):bytesOf (⟨(Lib.repeatL (⟨#[46]⟩:ByteArray).data.toList n).toArray⟩:ByteArray)=List.replicate n 46:=by
  show (bytesOf ⟨(Lib.repeatL [46] n).toArray⟩)=_
  rw [repeat_dot]
  simp [bytesOf]
def pmx:Int→List Int→Int
  | a,[]=>a
  | a,x :: xs=>pmx (mx a x) xs
theorem mx_le (a b:Int):a≤mx a b∧b≤mx a b:=by unfold mx;split <;> omega
theorem pmx_ge:∀ (S:List Int) (a:Int),a≤pmx a S∧∀ x∈S,x≤pmx a S:=by
  intro S
  induction S with
  | nil=>intro a;exact ⟨Int.le_refl _,fun x h=>by simp at h⟩
  | cons y S ih =>
    intro a
    have h:=ih (mx a y)
    have h2:=mx_le a y
    rw [pmx]
    refine ⟨by omega,fun x hx=>?_⟩
    rcases List.mem_cons.1 hx with rfl|q
    · omega
    · exact h.2 x q
theorem pmx_le {B:Int}:∀ (S:List Int) (a:Int),a≤B→(∀ x∈S,x≤B)→pmx a S≤B:=by
  intro S
  induction S with
  | nil=>intro a h _;exact h
  | cons y S ih =>
    intro a h1 h2
    rw [pmx]
    have:=h2 y (by simp)
    exact ih _ (by unfold mx;split <;> omega) (fun x hx=>h2 x (List.mem_cons_of_mem _ hx))
def pw:Int→List Int→Int
  | a,[]=>a
  | a,x :: xs=>pw (mx a (x+1)) xs
theorem pw_pmx:∀ (S:List Int) (a:Int),pw (a+1) S=pmx a S+1:=by
  intro S
  induction S with
  | nil=>intro a;rfl
  | cons y S ih =>
    intro a
    rw [pw,pmx,← ih]
    congr 1
    unfold mx;split <;> split <;> omega
end Go.Proofs.Ytimfbpmaepmdoaa.Pj
namespace Go.Proofs.Ytimfbpmaepmdoaa.Pj
open Go.RowKit Go.Proofs.YtimfbpmaepmdoaaW.PrintWords Go.Proofs.YtimfbpmaepmdoaaW.PrintMore Go.Proofs.Ytimfbpmaepmdoaa.Tr
set_option linter.unusedSimpArgs false
set_option linter.unusedVariables false
def c111 (l:List Int):Nat:=l.countP (fun x=>decide (x=111))
theorem c111_set:∀ (l:List Int) (i:Nat),i<l.length→¬ rd l (i:Int)=111→c111 (l.set i 111)=c111 l+1:=by
  intro l
  induction l with
  | nil=>intro i h;simp at h
  | cons x l ih =>
    intro i h hn
    cases i with
    | zero =>
      rw [show ((0:Nat):Int)=0 from rfl,rd_cons0] at hn
      simp [c111,hn]
    | succ i =>
      rw [Td.rd_tl] at hn
      have h1:=ih i (by simpa using h) hn
      simp only [c111] at h1 ⊢
      rw [List.set_cons_succ,List.countP_cons,List.countP_cons,h1]
      omega
theorem mark_mem (C D:List Int) (dep:Int):∀ m i r,∀ x∈mark C D dep m i r,x=111∨x∈r:=by
  intro m
  induction m with
  | zero=>intro i r x h;exact .inr h
  | succ m ih =>
    intro i r x h
    rw [mark] at h
    rcases ih _ _ x h with h|h
    · exact .inl h
    · split at h
      · rcases List.mem_or_eq_of_mem_set h with h|h
        · exact .inr h
        · exact .inl h
      · exact .inr h
theorem mark_count (C D:List Int) (dep:Int):∀ m i r,(∀ v:Nat,i≤v→v<i+m→rd D (v:Int)=dep→0≤rd C (v:Int)∧(rd C (v:Int)).toNat<r.length∧¬ rd r (rd C (v:Int))=111)→(∀ v w:Nat,i≤v→v<w→w<i+m→rd D (v:Int)=dep→rd D (w:Int)=dep→¬ rd C (v:Int)=rd C (w:Int)) →
    c111 (mark C D dep m i r)=c111 r+(List.range' i m).countP (fun v:Nat=>decide (rd D (v:Int)=dep)):=by
  intro m
  induction m with
  | zero=>intro i r _ _;simp [mark]
  | succ m ih =>
    intro i r h1 h2
    rw [mark,List.range'_succ,List.countP_cons]
    by_cases e:rd D (i:Int)=dep
    · obtain ⟨a1,a2,a3⟩:=h1 i (Nat.le_refl _) (by omega) e
      rw [if_pos e]
      rw [ih (i+1) _ (fun v g1 g2 g3=>?_) (fun v w g1 g2 g3=>h2 v w (by omega) g2 (by omega))]
      · have hs:=c111_set r (rd C (i:Int)).toNat a2 (by rw [Int.toNat_of_nonneg a1];exact a3)
        rw [hs]
        simp [e];omega
      · obtain ⟨b1,b2,b3⟩:=h1 v (by omega) (by omega) g3
        have hne:=h2 i v (Nat.le_refl _) (by omega) (by omega) e g3
        refine ⟨b1,by simpa using b2,?_⟩
        obtain ⟨q,hq⟩:=Int.eq_ofNat_of_zero_le b1
        rw [hq] at b2 b3 hne ⊢
        rw [rd_set (by simpa using b2) a1,if_neg hne]
        exact b3
    · rw [if_neg e]
      rw [ih (i+1) r (fun v g1 g2 g3=>h1 v (by omega) (by omega) g3) (fun v w g1 g2 g3=>h2 v w (by omega) g2 (by omega))]
      simp [e]
theorem range_countP (D:List Int) (dep:Int):(List.range' 0 D.length).countP (fun v:Nat=>decide (rd D (v:Int)=dep))=D.countP (fun x=>decide (x=dep)):=by
  have e:D=(List.range' 0 D.length).map (fun v:Nat=>rd D (v:Int)):=by
    apply List.ext_getElem
    · simp
    · intro i h1 h2
      simp only [List.getElem_map,List.getElem_range']
      rw [show 0+1*i=i by omega,rd_getElem h1]
  conv=>rhs;rw [e]
  rw [List.countP_map]
  rfl
def cB (L:List UInt8):Nat:=L.countP (fun b=>decide (b.toNat=111))
theorem cB_app (a b:List UInt8):cB (a++b)=cB a+cB b:=List.countP_append
theorem cB_nums:∀ (l:List Int),(∀ x∈l,x=111∨x=46)→cB (l.map fun n=>UInt8.ofNat n.toNat)=c111 l:=by
  intro l
  induction l with
  | nil=>intro _;rfl
  | cons x l ih =>
    intro h
    have h1:=ih (fun y hy=>h y (List.mem_cons_of_mem _ hy))
    simp only [cB,c111] at h1 ⊢
    rw [List.map_cons,List.countP_cons,List.countP_cons,h1]
    rcases h x (by simp) with rfl|rfl <;> rfl
theorem c111_dots:∀ n,c111 (List.replicate n 46)=0:=by
  intro n
  induction n with
  | zero=>rfl
  | succ n ih =>
    rw [List.replicate_succ]
    simp only [c111] at ih ⊢
    rw [List.countP_cons,ih];rfl
theorem row_count {C D:List Int} {W dep:Nat} (hD:D.length=C.length) (hC:∀ c∈C,0≤c∧c<(W:Int)) (hs:∀ i j:Nat,i<j→j<C.length→rd D (i:Int)=rd D (j:Int)→rd C (i:Int)+2≤rd C (j:Int)):cB (row C D W dep).data.toList=D.countP (fun x=>decide (x=(dep:Int))):=by
  rw [row,strOfNums_data,cB_nums _ (fun x hx=>by
    rcases mark_mem C D dep _ _ _ x hx with h|h
    · exact .inl h
    · exact .inr (List.eq_of_mem_replicate h)),mark_count C D dep C.length 0 _ (fun v _ g2 _=>?_) (fun v w _ g2 g3 g4 g5=>?_),c111_dots,Nat.zero_add,← hD,range_countP]
  · have hc:=hC _ (rd_mem (l:=C) (i:=(v:Int)) (by omega) (by omega))
    refine ⟨hc.1,by simp;omega,?_⟩
    obtain ⟨q,hq⟩:=Int.eq_ofNat_of_zero_le hc.1
    rw [hq] at hc ⊢
    rw [rd_getElem (by simp;omega),List.getElem_replicate]
    decide
  · have:=hs v w g2 (by omega) (by rw [g4,g5])
    omega
theorem J_count_snoc (R:List ByteArray) (s:ByteArray):cB (J (R++[s])).data.toList=cB (J R).data.toList+cB s.data.toList:=by
  by_cases h:R=[]
  · subst h
    simp [J,Lib.join_one,Lib.join,List.intercalate,cB]
  · have h2:=join_snoc [47] (R.map (·.data.toList)) s.data.toList (by simpa using h)
    simp only [J,List.map_append,List.map_cons,List.map_nil]
    rw [h2,cB_app,cB_app]
    show _+cB [47]+_=_
    rw [show cB [47]=0 from rfl,Nat.add_zero]
theorem lt_succ_count (m:Nat):∀ (D:List Int),D.countP (fun x=>decide (x<((m+1:Nat):Int)))=D.countP (fun x=>decide (x<(m:Int)))+D.countP (fun x=>decide (x=(m:Int))):=by
  intro D
  induction D with
  | nil=>rfl
  | cons x D ih =>
    rw [List.countP_cons,List.countP_cons,List.countP_cons,ih]
    by_cases h1:x<(m:Int)
    · rw [decide_eq_true h1,decide_eq_true (show x<((m+1:Nat):Int) by omega),decide_eq_false (show ¬ x=(m:Int) by omega)]
      simp only [if_true,Bool.false_eq_true,if_false];omega
    · by_cases h2:x=(m:Int)
      · rw [decide_eq_false h1,decide_eq_true (show x<((m+1:Nat):Int) by omega),decide_eq_true h2]
        simp only [if_true,Bool.false_eq_true,if_false];omega
      · rw [decide_eq_false h1,decide_eq_false (show ¬ x<((m+1:Nat):Int) by omega),decide_eq_false h2]
        simp only [Bool.false_eq_true,if_false];omega
theorem rows_count {C D:List Int} {W:Nat} (hD:D.length=C.length) (hC:∀ c∈C,0≤c∧c<(W:Int)) (hs:∀ i j:Nat,i<j→j<C.length→rd D (i:Int)=rd D (j:Int)→rd C (i:Int)+2≤rd C (j:Int)) (h0:∀ x∈D,0≤x):∀ m,cB (J (rows C D W m)).data.toList=D.countP (fun x=>decide (x<(m:Int))):=by
  intro m
  induction m with
  | zero =>
    have:D.countP (fun x=>decide (x<((0:Nat):Int)))=0:=by
      rw [List.countP_eq_zero]
      intro x hx
      have:=h0 x hx
      simp;omega
    rw [this];rfl
  | succ m ih=>rw [rows_succ,J_count_snoc,ih,row_count hD hC hs,lt_succ_count]
theorem all_count {C D:List Int} {W H:Nat} (hD:D.length=C.length) (hC:∀ c∈C,0≤c∧c<(W:Int)) (hs:∀ i j:Nat,i<j→j<C.length→rd D (i:Int)=rd D (j:Int)→rd C (i:Int)+2≤rd C (j:Int)) (h0:∀ x∈D,0≤x∧x≤(H:Int)):cB (J (rows C D W (H+1))).data.toList=C.length:=by
  rw [rows_count hD hC hs (fun x hx=>(h0 x hx).1),← hD,List.countP_eq_length]
  intro x hx
  have:=h0 x hx
  simp;omega
end Go.Proofs.Ytimfbpmaepmdoaa.Pj
namespace Go.Proofs.Ytimfbpmaepmdoaa.Dr
open Go.RowKit Go.Proofs.YtimfbpmaepmdoaaW.PrintWords
theorem u64_in (x:Int):0≤IntKind.u64.wrap x∧IntKind.u64.wrap x<18446744073709551616:=by
  have h:IntKind.u64.wrap x=x % 18446744073709551616:=by rfl
  rw [h];omega
theorem low_in {x:Int} (h0:0≤x) (h1:x<18446744073709551616):0≤Go.bits .and .u64 x 16777215∧Go.bits .and .u64 x 16777215≤16777215:=by
  obtain ⟨n,rfl⟩:=Int.eq_ofNat_of_zero_le h0
  have h:=Go.bits_and_u64_nat n 16777215 (by omega) (by omega)
  rw [show ((16777215:Nat):Int)=16777215 from rfl] at h
  rw [h]
  have:=Nat.and_le_right (n:=n) (m:=16777215)
  omega
theorem hash_in (x:Int):0≤Go.bits .and .u64 (IntKind.u64.wrap x / 8589934592) 16777215∧Go.bits .and .u64 (IntKind.u64.wrap x / 8589934592) 16777215≤16777215:=by
  have h:=u64_in x
  exact low_in (by omega) (by omega)
theorem tmod_in {a b:Int} (h0:0≤a) (hb:1≤b):0≤Int.tmod a b∧Int.tmod a b<b:=by
  rw [Int.tmod_eq_emod_of_nonneg h0]
  exact ⟨Int.emod_nonneg _ (by omega),Int.emod_lt_of_pos _ (by omega)⟩
end Go.Proofs.Ytimfbpmaepmdoaa.Dr
namespace Go.Proofs.Ytimfbpmaepmdoaa.Tr
open Go.RowKit Go.Proofs.YtimfbpmaepmdoaaW.PrintWords
end Go.Proofs.Ytimfbpmaepmdoaa.Tr
namespace Go.Proofs.Ytimfbpmaepmdoaa.Tr
open Go.RowKit Go.Proofs.YtimfbpmaepmdoaaW.PrintWords
set_option linter.unusedSimpArgs false
set_option linter.unusedVariables false
end Go.Proofs.Ytimfbpmaepmdoaa.Tr
namespace Go.Proofs.Ytimfbpmaepmdoaa.QFnDrawings
open Go.RowKit Go.Proofs.YtimfbpmaepmdoaaW.PrintWords Go.Proofs.YtimfbpmaepmdoaaW.PrintLast Go.Proofs.YtimfbpmaepmdoaaW.PrintMore Go.Proofs.Ytimfbpmaepmdoaa
set_option linter.unusedVariables false
set_option linter.unusedSimpArgs false
theorem Ev_succ {α:Type} {g:Nat→Option α} {r:α} (h:Ev (fun k=>g (k+1)) r):Ev g r:=Ev.step (fun _=>rfl) h
theorem evpos {α:Type} {c:Prop} [Decidable c] {f g:Nat→Option α} {r:α} (h:c) (k:Ev f r):Ev (fun n=>if c then f n else g n) r:=by
  simp only [if_pos h];exact k
theorem evneg {α:Type} {c:Prop} [Decidable c] {f g:Nat→Option α} {r:α} (h:¬ c) (k:Ev g r):Ev (fun n=>if c then f n else g n) r:=by
  simp only [if_neg h];exact k
theorem evsome {α β:Type} {a:α} {f:Nat→α→Option β} {r:β} (k:Ev (fun n=>f n a) r):Ev (fun n=>(some a).bind (f n)) r:=k
theorem evnow {α:Type} {a r:α} (h:a=r):Ev (fun _=>some a) r:=by subst h;exact Ev.now _
def up (m:Int):Nat→List Int
  | 0=>[]
  | n+1=>m :: up (m+1) n
theorem ev_isTree_l0:∀ (l pre:List Int) (m:Int) (n:Int),n=((pre++l).length:Int)→n≤1000→0≤m→m+24*l.length≤100000 →
    Ev (fun k=>impl_isTree.l0 k m (pre++l) n (pre.length:Int)) (Tr.ok l m):=by
  intro l
  induction l with
  | nil =>
    intro pre m n hn hb h0 h1
    refine Ev_succ ?_
    simp only [impl_isTree.l0]
    simp only [List.length_append,List.length_nil] at hn
    refine evneg (by omega) (evnow ?_)
    rfl
  | cons x l ih =>
    intro pre m n hn hb h0 h1
    refine Ev_succ ?_
    simp only [impl_isTree.l0]
    have hn':=hn
    simp only [List.length_append,List.length_cons] at hn h1 ⊢
    refine evpos (by omega) (evpos (by omega) (evpos (by simp;omega) ?_))
    have e:rd (pre++x :: l) (pre.length:Int)=x:=by rw [Tr.rd_app0];exact Tr.rd_cons0 _ _
    rw [e]
    by_cases hm:m=0
    · refine evpos hm (evnow ?_);simp [Tr.ok,hm]
    · refine evneg hm ?_
      by_cases hx:x<0
      · refine evpos hx (evnow ?_);simp [Tr.ok,hm,Int.not_le.mpr hx]
      · refine evneg hx ?_
        by_cases hy:x≥24
        · refine evpos hy (evnow ?_);simp [Tr.ok,hm,Int.not_lt.mpr hy]
        · refine evneg hy ?_
          have e2:wrap64 (m+wrap64 (x - 1))=m - 1+x:=by rw [Tr.wrap_id (x:=x - 1) (by omega) (by omega),Tr.wrap_id (by omega) (by omega)];omega
          have e3:wrap64 ((pre.length:Int)+1)=((pre++[x]).length:Int):=by rw [Tr.wrap_id (by omega) (by omega)];simp
          rw [e2,e3]
          have:=ih (pre++[x]) (m - 1+x) n (by simp;omega) hb (by omega) (by omega)
          simp only [List.append_assoc,List.singleton_append] at this
          rw [show Tr.ok (x :: l) m=Tr.ok l (m - 1+x) by
            have:(m != 0)=true:=bne_iff_ne.mpr hm
            have h4:decide (0≤x)=true:=decide_eq_true (by omega)
            have h5:decide (x<24)=true:=decide_eq_true (by omega)
            simp only [Tr.ok,this,h4,h5,Bool.true_and]]
          exact this
theorem ev_isTree (d:List Int):Ev (fun k=>impl_isTree.f k d) (Tr.isT d):=by
  unfold impl_isTree.f
  by_cases h:(d.length:Int)<1
  · refine evpos h (Ev_succ ?_)
    simp only [impl_isTree.j0]
    refine evpos (by simp) (evnow ?_)
    simp only [Tr.isT,decide_eq_false (by omega:¬ 1≤d.length),Bool.false_and]
  · refine evneg h (Ev_succ ?_)
    simp only [impl_isTree.j0]
    by_cases h2:(d.length:Int)>24
    · refine evpos (decide_eq_true h2) (evnow ?_)
      simp only [Tr.isT,decide_eq_false (by omega:¬ d.length≤24),Bool.false_and,Bool.and_false]
    · refine evneg (by simpa using h2) ?_
      have:=ev_isTree_l0 d [] 1 d.length (by simp) (by omega) (by omega) (by omega)
      rw [show Tr.isT d=Tr.ok d 1 by simp only [Tr.isT,decide_eq_true (by omega:1≤d.length),decide_eq_true (by omega:d.length≤24),Bool.true_and]]
      exact this
theorem ev_IsTree (d:List Int):Ev (fun k=>impl_IsTree.f k d) (Tr.isT d):=by
  unfold impl_IsTree.f
  exact Ev.bind (ev_isTree d) (Ev.now _)
theorem l01In_eq (a b c:Int):spec_l01In.f a b c=some (decide (b≤a∧a≤c)):=by
  unfold spec_l01In.f
  by_cases h:a≥b
  · rw [if_pos h];congr 1;simp;omega
  · rw [if_neg h];congr 1;symm;simp;omega
theorem l01N_eq (d:List Int):spec_l01N.f d=some (d.length:Int):=rfl
theorem ev_l01Is_l0:∀ (l pre:List Int) (m:Int),(pre++l).length≤24→0≤m→(m≥1∨True)→m+25*l.length≤100000 →
    Ev (fun k=>spec_l01Is.l0 k m (pre.length:Int) (pre++l)) (Tr.ok25 l m):=by
  intro l
  induction l with
  | nil =>
    intro pre m hb h0 _ h1
    refine Ev_succ ?_
    simp only [spec_l01Is.l0,List.length_append,List.length_nil]
    refine evneg (by omega) (evnow ?_)
    rfl
  | cons x l ih =>
    intro pre m hb h0 _ h1
    refine Ev_succ ?_
    simp only [spec_l01Is.l0]
    simp only [List.length_append,List.length_cons] at h1 hb ⊢
    refine evpos (by omega) ?_
    have e:rd (pre++x :: l) (pre.length:Int)=x:=by rw [Tr.rd_app0];exact Tr.rd_cons0 _ _
    rw [e,l01In_eq]
    by_cases hm:m=0
    · refine evpos hm (evnow ?_);simp [Tr.ok25,hm]
    · refine evneg hm (evpos (by omega) (evsome ?_))
      by_cases hx:0≤x∧x≤24
      · refine evpos (decide_eq_true hx) ?_
        have e2:wrap64 (wrap64 (m - 1)+x)=m - 1+x:=by rw [Tr.wrap_id (x:=m - 1) (by omega) (by omega),Tr.wrap_id (by omega) (by omega)]
        have e3:wrap64 ((pre.length:Int)+1)=((pre++[x]).length:Int):=by rw [Tr.wrap_id (by omega) (by omega)];simp
        rw [e2,e3]
        have:=ih (pre++[x]) (m - 1+x) (by simp;omega) (by omega) (.inr trivial) (by omega)
        simp only [List.append_assoc,List.singleton_append] at this
        rw [show Tr.ok25 (x :: l) m=Tr.ok25 l (m - 1+x) by
          have:(m != 0)=true:=bne_iff_ne.mpr hm
          simp only [Tr.ok25,this,decide_eq_true hx,Bool.true_and]]
        exact this
      · refine evneg (by simpa using hx) (evnow ?_)
        simp only [Tr.ok25,decide_eq_false hx,Bool.false_and,Bool.and_false]
theorem ev_l01Is (d:List Int):Ev (fun k=>spec_l01Is.f k d) (Tr.isT d):=by
  unfold spec_l01Is.f
  rw [l01N_eq]
  refine evsome ?_
  rw [l01In_eq]
  refine evsome ?_
  by_cases h:(1:Int)≤(d.length:Int)∧(d.length:Int)≤24
  · refine evpos (decide_eq_true h) ?_
    have:=ev_l01Is_l0 d [] 1 (by simp;omega) (by omega) (.inr trivial) (by omega)
    rw [Tr.isT_eq25 d (by omega) (by omega)]
    exact this
  · refine evneg (by simpa using h) (evnow ?_)
    simp only [Tr.isT]
    by_cases h2:1≤d.length
    · simp only [decide_eq_false (by omega:¬ d.length≤24),Bool.false_and,Bool.and_false]
    · simp only [decide_eq_false h2,Bool.false_and]
theorem ev_endOf_l0 (d:List Int) (hd:d.length≤1000) (r:Int):∀ (g:Tr.F) (p j:Nat),Tr.Pl d p g→j+g.size≤100000 →
    Ev (fun k=>impl_endOf.l0 k d ((p+g.size:Nat):Int) (j:Int)) r→Ev (fun k=>impl_endOf.l0 k d (p:Int) ((g.len+j:Nat):Int)) r:=by
  intro g
  induction g with
  | nil=>intro p j _ _ h;simpa [Tr.F.size,Tr.F.len] using h
  | cons b n hb hn =>
    intro p j hp hj h
    have hle:=hp.le
    simp only [Tr.F.size] at hle hj
    have l1:=Tr.F.len_le b
    have l2:=Tr.F.len_le n
    refine Ev_succ ?_
    simp only [impl_endOf.l0,Tr.F.len]
    refine evpos (by omega) (evpos (by omega) (evpos (by omega) ?_))
    rw [hp.deg]
    have e:wrap64 ((p:Int)+1)=((p+1:Nat):Int):=by rw [Tr.wrap_id (by omega) (by omega)];omega
    have e2:wrap64 (((1+n.len+j:Nat):Int)+wrap64 ((b.len:Int) - 1))=((b.len+(n.len+j):Nat):Int):=by
      rw [Tr.wrap_id (x:=(b.len:Int) - 1) (by omega) (by omega),Tr.wrap_id (by omega) (by omega)];omega
    rw [e,e2]
    refine hb (p+1) (n.len+j) hp.below (by omega) ?_
    refine hn (p+1+b.size) j hp.next (by omega) ?_
    rw [show p+1+b.size+n.size=p+(Tr.F.cons b n).size by simp only [Tr.F.size];omega]
    exact h
theorem ev_endOf {d:List Int} (hd:d.length≤1000) {p:Nat} {b n:Tr.F} (h:Tr.Pl d p (.cons b n)):Ev (fun k=>impl_endOf.f k d (p:Int)) ((p+1+b.size:Nat):Int):=by
  unfold impl_endOf.f
  have:=ev_endOf_l0 d hd ((p+1+b.size:Nat):Int) (.cons b .nil) p 0 h.one (by have:=h.le;simp only [Tr.F.size] at this ⊢;omega)
  simp only [Tr.F.len,Tr.F.size] at this
  refine this ?_
  refine Ev_succ ?_
  simp only [impl_endOf.l0]
  refine evneg (by omega) (evnow (by omega))
theorem ev_l01End_l0 (d:List Int) (hd:d.length≤1000) (r:Int):∀ (g:Tr.F) (p j:Nat),Tr.Pl d p g→j+g.size≤100000 →
    Ev (fun k=>spec_l01End.l0 k ((p+g.size:Nat):Int) (j:Int) d) r→Ev (fun k=>spec_l01End.l0 k (p:Int) ((g.len+j:Nat):Int) d) r:=by
  intro g
  induction g with
  | nil=>intro p j _ _ h;simpa [Tr.F.size,Tr.F.len] using h
  | cons b n hb hn =>
    intro p j hp hj h
    have hle:=hp.le
    simp only [Tr.F.size] at hle hj
    have l1:=Tr.F.len_le b
    have l2:=Tr.F.len_le n
    refine Ev_succ ?_
    simp only [spec_l01End.l0,Tr.F.len]
    refine evpos (by omega) (evpos (by omega) (evpos (by omega) ?_))
    rw [hp.deg]
    have e:wrap64 ((p:Int)+1)=((p+1:Nat):Int):=by rw [Tr.wrap_id (by omega) (by omega)];omega
    have e2:wrap64 (wrap64 (((1+n.len+j:Nat):Int) - 1)+(b.len:Int))=((b.len+(n.len+j):Nat):Int):=by
      rw [Tr.wrap_id (x:=((1+n.len+j:Nat):Int) - 1) (by omega) (by omega),Tr.wrap_id (by omega) (by omega)];omega
    rw [e,e2]
    refine hb (p+1) (n.len+j) hp.below (by omega) ?_
    refine hn (p+1+b.size) j hp.next (by omega) ?_
    rw [show p+1+b.size+n.size=p+(Tr.F.cons b n).size by simp only [Tr.F.size];omega]
    exact h
theorem ev_l01End {d:List Int} (hd:d.length≤1000) {p:Nat} {b n:Tr.F} (h:Tr.Pl d p (.cons b n)):Ev (fun k=>spec_l01End.f k d (p:Int)) ((p+1+b.size:Nat):Int):=by
  unfold spec_l01End.f
  have:=ev_l01End_l0 d hd ((p+1+b.size:Nat):Int) (.cons b .nil) p 0 h.one (by have:=h.le;simp only [Tr.F.size] at this ⊢;omega)
  simp only [Tr.F.len,Tr.F.size] at this
  refine this ?_
  refine Ev_succ ?_
  simp only [spec_l01End.l0]
  refine evneg (by omega) (evnow (by omega))
theorem ev_kidsOf_l0 (d:List Int) (hd:d.length≤1000):∀ (g:Tr.F) (p i N:Nat) (out:List Int),Tr.Pl d p g→i+g.len=N→N≤1000→out.length≤i →
    Ev (fun k=>impl_kidsOf.l0 k d out (p:Int) (N:Int) (i:Int)) (out++g.roots p):=by
  intro g
  induction g with
  | nil =>
    intro p i N out hp hi hN ho
    simp only [Tr.F.len] at hi
    refine Ev_succ ?_
    simp only [impl_kidsOf.l0]
    refine evneg (by omega) (evnow ?_)
    simp [Tr.F.roots]
  | cons b n hb hn =>
    intro p i N out hp hi hN ho
    simp only [Tr.F.len] at hi
    refine Ev_succ ?_
    simp only [impl_kidsOf.l0]
    refine evpos (by omega) (evpos (by omega) (Ev.bind (ev_endOf hd hp) ?_))
    have e:wrap64 ((i:Int)+1)=((i+1:Nat):Int):=by rw [Tr.wrap_id (by omega) (by omega)];omega
    rw [e]
    have:=hn (p+1+b.size) (i+1) N (out++[(p:Int)]) hp.next (by omega) hN (by simp;omega)
    simpa [Tr.F.roots] using this
theorem ev_kidsOf {d:List Int} (hd:d.length≤1000) {p:Nat} {b n:Tr.F} (h:Tr.Pl d p (.cons b n)):Ev (fun k=>impl_kidsOf.f k d (p:Int)) (b.roots (p+1)):=by
  have hle:=h.le
  simp only [Tr.F.size] at hle
  have l1:=Tr.F.len_le b
  unfold impl_kidsOf.f
  refine evpos (by omega) (evpos (by omega) ?_)
  have e:wrap64 ((p:Int)+1)=((p+1:Nat):Int):=by rw [Tr.wrap_id (by omega) (by omega)];omega
  rw [h.deg,e]
  have:=ev_kidsOf_l0 d hd b (p+1) 0 b.len [] h.below (by omega) (by omega) (by simp)
  simpa using this
theorem ev_l01Children_l0 (d:List Int) (hd:d.length≤1000):∀ (g:Tr.F) (p:Nat) (out:List Int),Tr.Pl d p g→out.length+g.len≤1000 →
    Ev (fun k=>spec_l01Children.l0 k out (p:Int) (g.len:Int) d) (out++g.roots p):=by
  intro g
  induction g with
  | nil =>
    intro p out hp ho
    refine Ev_succ ?_
    simp only [spec_l01Children.l0,Tr.F.len]
    refine evneg (by omega) (evnow ?_)
    simp [Tr.F.roots]
  | cons b n hb hn =>
    intro p out hp ho
    simp only [Tr.F.len] at ho
    refine Ev_succ ?_
    simp only [spec_l01Children.l0,Tr.F.len]
    refine evpos (by omega) (evpos (by omega) (Ev.bind (ev_l01End hd hp) ?_))
    have e:wrap64 (((1+n.len:Nat):Int) - 1)=(n.len:Int):=by rw [Tr.wrap_id (by omega) (by omega)];omega
    rw [e]
    have:=hn (p+1+b.size) (out++[(p:Int)]) hp.next (by simp;omega)
    simpa [Tr.F.roots] using this
theorem ev_l01Children {d:List Int} (hd:d.length≤1000) {p:Nat} {b n:Tr.F} (h:Tr.Pl d p (.cons b n)):Ev (fun k=>spec_l01Children.f k d (p:Int)) (b.roots (p+1)):=by
  have hle:=h.le
  simp only [Tr.F.size] at hle
  have l1:=Tr.F.len_le b
  unfold spec_l01Children.f
  refine evpos (by omega) (evpos (by omega) ?_)
  have e:wrap64 ((p:Int)+1)=((p+1:Nat):Int):=by rw [Tr.wrap_id (by omega) (by omega)];omega
  rw [h.deg,e]
  have:=ev_l01Children_l0 d hd b (p+1) [] h.below (by simp;omega)
  simpa using this
theorem l01Own_eq (l:List Int) (h:l.length≤1000000):spec_l01Own.f l=some l:=by
  unfold spec_l01Own.f
  simp only [Option.bind_some]
  rw [if_pos (by simp;omega)]
  simp
theorem l01Make_eq (l:List Int) (h:l.length≤1000000):spec_l01Make.f l=some l:=by
  unfold spec_l01Make.f
  rw [l01Own_eq l h];rfl
theorem ev_l01Parents_l1 (d:List Int) (v:Nat) (hv:v≤1000) (r:List Int):∀ (l pre out:List Int),(pre++l).length≤1000→(∀ c∈l,0≤c∧c<out.length) →
    Ev (fun k=>spec_l01Parents.l0 k (Tr.setAll out l v) ((v+1:Nat):Int) d) r→Ev (fun k=>spec_l01Parents.l1 k out (v:Int) (pre++l) (pre.length:Int) d) r:=by
  intro l
  induction l with
  | nil =>
    intro pre out hb _ h
    refine Ev_succ ?_
    simp only [spec_l01Parents.l1]
    refine evneg (by simp) ?_
    have e:wrap64 ((v:Int)+1)=((v+1:Nat):Int):=by rw [Tr.wrap_id (by omega) (by omega)];omega
    rw [e];exact h
  | cons c l ih =>
    intro pre out hb hc h
    have h1:=hc c (List.mem_cons_self ..)
    refine Ev_succ ?_
    simp only [spec_l01Parents.l1]
    have e:rd (pre++c :: l) (pre.length:Int)=c:=by rw [Tr.rd_app0];exact Tr.rd_cons0 _ _
    have hb':=hb
    simp only [List.length_append,List.length_cons] at hb
    have e3:wrap64 ((pre.length:Int)+1)=((pre++[c]).length:Int):=by rw [Tr.wrap_id (by omega) (by omega)];simp
    refine evpos (by simp;omega) (evpos (by omega) (evpos (by rw [e];omega) (evpos (by rw [e];omega) ?_)))
    rw [e,e3]
    have:=ih (pre++[c]) (out.set c.toNat v) (by simpa using hb') (fun x hx=>by have:=hc x (List.mem_cons_of_mem _ hx);simpa using this) h
    simpa using this
theorem ev_l01Parents_l0 {d:List Int} {t:Tr.F} (h:Tr.Tree d t):∀ (m v:Nat) (out:List Int),v+m=t.size→out.length=t.size→(∀ c:Nat,c<t.size→t.par 0 (-1) c<v→rd out (c:Int)=t.par 0 (-1) c) →
    Ev (fun k=>spec_l01Parents.l0 k out (v:Int) d) (Tr.parentsL t):=by
  have hle:=h.le
  have hlen:=h.len
  intro m
  induction m with
  | zero =>
    intro v out hv ho hi
    refine Ev_succ ?_
    simp only [spec_l01Parents.l0,l01N_eq]
    refine evsome (evneg (by omega) (evnow ?_))
    refine Tr.each_eq ho (fun c hc=>hi c hc ?_)
    have:=(h.par_lt hc).2;omega
  | succ m ih =>
    intro v out hv ho hi
    refine Ev_succ ?_
    simp only [spec_l01Parents.l0,l01N_eq]
    obtain ⟨n,hp⟩:=h.node (v:=v) (by omega)
    refine evsome (evpos (by omega) (Ev.bind (ev_l01Children (by omega) hp) ?_))
    have hk:∀ c∈(t.sub v).roots (v+1),0≤c∧c<out.length:=fun c hc=>by have:=h.kid_range (v:=v) (by omega) hc;omega
    refine ev_l01Parents_l1 d v (by omega) _ _ [] out ?_ hk ?_
    · have:=Tr.F.len_le (t.sub v)
      have:=h.fits (v:=v) (by omega)
      rw [List.nil_append,Tr.F.roots_len];omega
    · refine ih (v+1) _ (by omega) (by rw [Tr.setAll_len];exact ho) (fun c hc hpc=>?_)
      rw [Tr.setAll_rd v _ _ _ (fun x hx=>(hk x hx).1) (by omega)]
      by_cases e:(c:Int)∈(t.sub v).roots (v+1)
      · rw [if_pos e];exact ((h.kids (by omega) hc).1 e).symm
      · rw [if_neg e]
        refine hi c hc ?_
        have:¬ t.par 0 (-1) c=v:=fun e'=>e ((h.kids (by omega) hc).2 e')
        omega
theorem ev_l01Parents {d:List Int} {t:Tr.F} (h:Tr.Tree d t):Ev (fun k=>spec_l01Parents.f k d) (Tr.parentsL t):=by
  have hle:=h.le
  have hlen:=h.len
  have hpos:=h.pos
  unfold spec_l01Parents.f
  rw [l01N_eq]
  refine evsome (evpos (by omega) (evpos (by omega) (evsome (evpos (by simp;omega) ?_))))
  refine ev_l01Parents_l0 h t.size 0 _ (by omega) (by simp;omega) (fun c hc hp=>?_)
  have e:c=0:=by
    by_cases e:c=0
    · exact e
    · have:=h.par_pos (c:=c) (by omega) hc;omega
  subst e
  rw [h.par_zero]
  have:=Tr.rd_set (l:=List.replicate (d.length:Int).toNat 0) (c:=0) (x:=-1) (i:=0) (by simp;omega) (by omega)
  simpa using this
theorem ev_parentsOf_l1 (d:List Int) (v:Nat) (hv:v≤1000) (N:Int) (r:List Int):∀ (l pre out:List Int),(pre++l).length≤1000→(∀ c∈l,0≤c∧c<out.length) →
    Ev (fun k=>impl_parentsOf.l0 k d (Tr.setAll out l v) N ((v+1:Nat):Int)) r→Ev (fun k=>impl_parentsOf.l1 k d out (v:Int) N (v:Int) (pre++l) ((pre++l).length:Int) (pre.length:Int)) r:=by
  intro l
  induction l with
  | nil =>
    intro pre out hb _ h
    refine Ev_succ ?_
    simp only [impl_parentsOf.l1]
    refine evneg (by simp) ?_
    rw [Tr.wrap_succ (by omega)];exact h
  | cons c l ih =>
    intro pre out hb hc h
    have h1:=hc c (List.mem_cons_self ..)
    refine Ev_succ ?_
    simp only [impl_parentsOf.l1]
    have e:rd (pre++c :: l) (pre.length:Int)=c:=by rw [Tr.rd_app0];exact Tr.rd_cons0 _ _
    have hb':=hb
    simp only [List.length_append,List.length_cons] at hb
    refine evpos (by simp;omega) (evpos (by omega) (evpos (by simp;omega) ?_))
    rw [e]
    clear e
    refine evpos h1.1 (evpos h1.2 ?_)
    rw [Tr.wrap_succ (by omega)]
    have:=ih (pre++[c]) (out.set c.toNat v) (by simpa using hb') (fun x hx=>by have:=hc x (List.mem_cons_of_mem _ hx);simpa using this) h
    simpa using this
theorem ev_parentsOf_l0 {d:List Int} {t:Tr.F} (h:Tr.Tree d t):∀ (m v:Nat) (out:List Int),v+m=t.size→out.length=t.size→(∀ c:Nat,c<t.size→t.par 0 (-1) c<v→rd out (c:Int)=t.par 0 (-1) c) →
    Ev (fun k=>impl_parentsOf.l0 k d out (t.size:Int) (v:Int)) (Tr.parentsL t):=by
  have hle:=h.le
  have hlen:=h.len
  intro m
  induction m with
  | zero =>
    intro v out hv ho hi
    refine Ev_succ ?_
    simp only [impl_parentsOf.l0]
    refine evneg (by omega) (evnow ?_)
    refine Tr.each_eq ho (fun c hc=>hi c hc ?_)
    have:=(h.par_lt hc).2;omega
  | succ m ih =>
    intro v out hv ho hi
    refine Ev_succ ?_
    simp only [impl_parentsOf.l0]
    obtain ⟨n,hp⟩:=h.node (v:=v) (by omega)
    refine evpos (by omega) (Ev.bind (ev_kidsOf (by omega) hp) ?_)
    have hk:∀ c∈(t.sub v).roots (v+1),0≤c∧c<out.length:=fun c hc=>by have:=h.kid_range (v:=v) (by omega) hc;omega
    refine ev_parentsOf_l1 d v (by omega) _ _ _ [] out ?_ hk ?_
    · have:=Tr.F.len_le (t.sub v)
      have:=h.fits (v:=v) (by omega)
      rw [List.nil_append,Tr.F.roots_len];omega
    · refine ih (v+1) _ (by omega) (by rw [Tr.setAll_len];exact ho) (fun c hc hpc=>?_)
      rw [Tr.setAll_rd v _ _ _ (fun x hx=>(hk x hx).1) (by omega)]
      by_cases e:(c:Int)∈(t.sub v).roots (v+1)
      · rw [if_pos e];exact ((h.kids (by omega) hc).1 e).symm
      · rw [if_neg e]
        refine hi c hc ?_
        have:¬ t.par 0 (-1) c=v:=fun e'=>e ((h.kids (by omega) hc).2 e')
        omega
theorem ev_parentsOf {d:List Int} {t:Tr.F} (h:Tr.Tree d t):Ev (fun k=>impl_parentsOf.f k d) (Tr.parentsL t):=by
  have hle:=h.le
  have hlen:=h.len
  have hpos:=h.pos
  unfold impl_parentsOf.f slices_Repeat.f
  rw [if_pos (by refine ⟨rfl,?_,?_⟩ <;> omega)]
  refine evsome ?_
  rw [hlen]
  refine ev_parentsOf_l0 h t.size 0 _ (by omega) (by simp) (fun c hc hp=>?_)
  have e:c=0:=by
    by_cases e:c=0
    · exact e
    · have:=h.par_pos (c:=c) (by omega) hc;omega
  subst e
  rw [h.par_zero]
  rw [Tr.rd_getElem (by simp;omega)]
  simp [rd]
theorem ev_l01Depths_l0 {d:List Int} {t:Tr.F} (h:Tr.Tree d t):∀ (m v:Nat) (out:List Int),v+m=t.size→1≤v→out.length=t.size→(∀ c:Nat,c<v→rd out (c:Int)=t.dep 0 0 c) →
    Ev (fun k=>spec_l01Depths.l0 k (Tr.parentsL t) out (v:Int)) (Tr.depthsL t):=by
  have hle:=h.le
  have hlen:=h.len
  have hpl:(Tr.parentsL t).length=t.size:=Tr.each_len _ _
  intro m
  induction m with
  | zero =>
    intro v out hv h1 ho hi
    refine Ev_succ ?_
    simp only [spec_l01Depths.l0]
    refine evneg (by omega) (evnow ?_)
    exact Tr.each_eq ho (fun c hc=>hi c (by omega))
  | succ m ih =>
    intro v out hv h1 ho hi
    have hp:=h.par_pos h1 (by omega)
    have hst:=h.dep_step h1 (by omega)
    obtain ⟨q,hq⟩:∃ q:Nat,t.par 0 (-1) v=(q:Int):=⟨(t.par 0 (-1) v).toNat,by omega⟩
    have hr:rd (Tr.parentsL t) (v:Int)=q:=(Tr.each_rd (by omega)).trans hq
    have hd:=hi q (by omega)
    have hdr:=h.dep_range q (by omega)
    rw [hq,Int.toNat_natCast] at hst
    refine Ev_succ ?_
    simp only [spec_l01Depths.l0]
    rw [hr]
    clear hr
    rw [hd]
    clear hd
    have hnext:=ih (v+1) (out.set v (t.dep 0 0 q+1)) (by omega) (by omega) (by simpa using ho) (fun c hc=>by
      have:=Tr.rd_set (l:=out) (c:=(v:Int)) (x:=t.dep 0 0 q+1) (i:=c) (by omega) (by omega)
      rw [Int.toNat_natCast] at this
      rw [this]
      by_cases e:(v:Int)=c
      · rw [if_pos e,← hst];congr 1;omega
      · rw [if_neg e];exact hi c (by omega))
    generalize t.dep 0 0 q=x at hdr hnext ⊢
    clear hst hi
    refine evpos (by omega) (evpos (by omega) (evpos (by omega) (evpos (by omega) (evpos (by omega) ?_))))
    rw [Tr.wrap_succ (by omega),Tr.wrap_id (by omega) (by omega),Int.toNat_natCast]
    exact hnext
theorem ev_l01Depths {d:List Int} {t:Tr.F} (h:Tr.Tree d t):Ev (fun k=>spec_l01Depths.f k d) (Tr.depthsL t):=by
  have hle:=h.le
  have hlen:=h.len
  have hpos:=h.pos
  unfold spec_l01Depths.f
  refine Ev.bind (ev_l01Parents h) ?_
  rw [l01N_eq]
  refine evsome (evpos (by omega) (evpos (by omega) ?_))
  refine ev_l01Depths_l0 h (t.size - 1) 1 _ (by omega) (by omega) (by simp;omega) (fun c hc=>?_)
  obtain rfl:c=0:=by omega
  rw [h.dep_zero,Tr.rd_getElem (by simp;omega)]
  simp
theorem ev_depthsOf_l0 {d:List Int} {t:Tr.F} (h:Tr.Tree d t):∀ (m v:Nat) (out:List Int),v+m=t.size→out.length=t.size→(∀ c:Nat,c<v→rd out (c:Int)=t.dep 0 0 c)→(v=0→rd out 0=0) →
    Ev (fun k=>impl_depthsOf.l0 k out (Tr.parentsL t) (t.size:Int) (v:Int)) (Tr.depthsL t):=by
  have hle:=h.le
  have hlen:=h.len
  have hpl:(Tr.parentsL t).length=t.size:=Tr.each_len _ _
  intro m
  induction m with
  | zero =>
    intro v out hv ho hi _
    refine Ev_succ ?_
    simp only [impl_depthsOf.l0]
    refine evneg (by omega) (evnow ?_)
    exact Tr.each_eq ho (fun c hc=>hi c (by omega))
  | succ m ih =>
    intro v out hv ho hi h0
    refine Ev_succ ?_
    simp only [impl_depthsOf.l0]
    refine evpos (by omega) (evpos (by omega) (evpos (by omega) ?_))
    rw [Tr.wrap_succ (by omega)]
    by_cases hz:v=0
    · subst hz
      have hr:rd (Tr.parentsL t) ((0:Nat):Int)=-1:=(Tr.each_rd (by omega)).trans h.par_zero
      rw [hr]
      clear hr
      refine evneg (by omega) (ih (0+1) out (by omega) ho (fun c hc=>?_) (fun e=>by omega))
      obtain rfl:c=0:=by omega
      rw [h.dep_zero];exact h0 rfl
    · have hp:=h.par_pos (c:=v) (by omega) (by omega)
      have hst:=h.dep_step (c:=v) (by omega) (by omega)
      obtain ⟨q,hq⟩:∃ q:Nat,t.par 0 (-1) v=(q:Int):=⟨(t.par 0 (-1) v).toNat,by omega⟩
      have hr:rd (Tr.parentsL t) (v:Int)=q:=(Tr.each_rd (by omega)).trans hq
      have hd:=hi q (by omega)
      have hdr:=h.dep_range q (by omega)
      rw [hq,Int.toNat_natCast] at hst
      rw [hr]
      clear hr
      rw [hd]
      clear hd
      have hnext:=ih (v+1) (out.set v (t.dep 0 0 q+1)) (by omega) (by simpa using ho) (fun c hc=>by
        have:=Tr.rd_set (l:=out) (c:=(v:Int)) (x:=t.dep 0 0 q+1) (i:=c) (by omega) (by omega)
        rw [Int.toNat_natCast] at this
        rw [this]
        by_cases e:(v:Int)=c
        · rw [if_pos e,← hst];congr 1;omega
        · rw [if_neg e];exact hi c (by omega)) (fun e=>by omega)
      generalize t.dep 0 0 q=x at hdr hnext ⊢
      clear hst hi h0
      refine evpos (by omega) (evpos (by omega) (evpos (by omega) (evpos (by omega) ?_)))
      rw [Tr.wrap_id (by omega) (by omega),Int.toNat_natCast]
      exact hnext
theorem ev_depthsOf {d:List Int} {t:Tr.F} (h:Tr.Tree d t):Ev (fun k=>impl_depthsOf.f k d) (Tr.depthsL t):=by
  have hle:=h.le
  have hlen:=h.len
  have hpos:=h.pos
  have hpl:(Tr.parentsL t).length=t.size:=Tr.each_len _ _
  unfold impl_depthsOf.f
  refine evpos (by omega) (evpos (by omega) (Ev.bind (ev_parentsOf h) ?_))
  rw [hpl]
  refine ev_depthsOf_l0 h t.size 0 _ (by omega) (by simp;omega) (fun c hc=>by omega) (fun _=>?_)
  have:=Tr.rd_getElem (l:=List.replicate (d.length:Int).toNat 0) (i:=0) (by simp;omega)
  simpa using this
theorem ev_Index_l0 (x:Int):∀ (l pre:List Int) (N:Int),N=((pre++l).length:Int)→N≤100000000→Ev (fun k=>slices_Index_int64_int64.l0 k (pre++l) x N (pre.length:Int)) (Tr.idx x l pre.length):=by
  intro l
  induction l with
  | nil =>
    intro pre N hN hb
    refine Ev_succ ?_
    simp only [slices_Index_int64_int64.l0]
    simp only [List.length_append,List.length_nil] at hN
    exact evneg (by omega) (evnow rfl)
  | cons y l ih =>
    intro pre N hN hb
    have hN':=hN
    simp only [List.length_append,List.length_cons] at hN
    refine Ev_succ ?_
    simp only [slices_Index_int64_int64.l0]
    rw [Tr.rd_app0,Tr.rd_cons0]
    refine evpos (by omega) (evpos (by omega) (evpos (by simp;omega) ?_))
    unfold Tr.idx
    by_cases h:x=y
    · rw [if_pos h];exact evpos h (Ev.now _)
    · rw [if_neg h]
      refine evneg h ?_
      rw [Tr.wrap_succ (by omega)]
      have:=ih (pre++[y]) N (by rw [hN'];simp) hb
      simpa using this
theorem ev_Index (l:List Int) (x:Int) (h:l.length≤100000000):Ev (fun k=>slices_Index_int64_int64.f k l x) (Tr.idx x l 0):=by
  unfold slices_Index_int64_int64.f
  exact ev_Index_l0 x l [] l.length (by simp) (by omega)
theorem ev_Beside_spec_l1 (dl:List Int) (hd:dl.length≤1000) (out:List Int) (ho:out.length≤1000) (v:Nat) (hv:v<dl.length) (r:List Int × Int):∀ (m w:Nat),w=v+1+m→w≤dl.length →
    Ev (fun k=>spec_BesideOf.l0 k dl (out++[Tr.idx (rd dl (v:Int)) (dl.drop (v+1)) (v+1)]) ((v+1:Nat):Int)) r →
    Ev (fun k=>spec_BesideOf.l1 k dl out (v:Int) (Tr.idx (rd dl (v:Int)) (dl.drop w) w) ((w:Int) - 1)) r:=by
  intro m
  induction m with
  | zero =>
    intro w hw hl h
    obtain rfl:w=v+1:=by omega
    refine Ev_succ ?_
    simp only [spec_BesideOf.l1]
    refine evneg (by omega) (evpos (by omega) ?_)
    rw [Tr.wrap_succ (by omega)]
    exact h
  | succ m ih =>
    intro w hw hl h
    have h1:=ih (w - 1) (by omega) (by omega) h
    have e1:((w - 1:Nat):Int)=(w:Int) - 1:=by omega
    have e2:rd dl ((w:Int) - 1)=dl[w - 1]:=by rw [← e1,Tr.rd_getElem (by omega)]
    have e3:Tr.idx (rd dl (v:Int)) (dl.drop (w - 1)) (w - 1)=if rd dl (v:Int)=dl[w - 1] then ((w - 1:Nat):Int) else Tr.idx (rd dl (v:Int)) (dl.drop w) w:=by
      rw [List.drop_eq_getElem_cons (by omega:w - 1<dl.length),Tr.idx,show w - 1+1=w by omega]
    rw [e3] at h1
    refine Ev_succ ?_
    simp only [spec_BesideOf.l1]
    rw [e2]
    clear e2 e3 h
    refine evpos (by omega) (evpos (by omega) (evpos (by omega) (evpos (by omega) (evpos (by omega) ?_))))
    rw [Tr.wrap_id (by omega) (by omega),← e1]
    by_cases hx:dl[w - 1]=rd dl (v:Int)
    · refine evpos hx ?_
      rw [if_pos hx.symm] at h1
      exact h1
    · refine evneg hx ?_
      rw [if_neg (fun e=>hx e.symm)] at h1
      exact h1
theorem ev_Beside_spec_l0 (dl:List Int) (hd:dl.length≤1000) (bs:Nat→Int) (hbs:bs=fun v:Nat=>Tr.idx (rd dl (v:Int)) (dl.drop (v+1)) (v+1)):∀ (m v:Nat),v+m=dl.length →
    Ev (fun k=>spec_BesideOf.l0 k dl (Tr.each v bs) (v:Int)) (Tr.each dl.length bs,0):=by
  intro m
  induction m with
  | zero =>
    intro v hv
    refine Ev_succ ?_
    simp only [spec_BesideOf.l0]
    refine evneg (by omega) (evnow ?_)
    have:v=dl.length:=by omega
    rw [this]
  | succ m ih =>
    intro v hv
    have h1:=ih (v+1) (by omega)
    rw [Tr.each_succ] at h1
    have h2:=ev_Beside_spec_l1 dl hd (Tr.each v bs) (by rw [Tr.each_len];omega) v (by omega) (Tr.each dl.length bs,0) (dl.length - (v+1)) dl.length (by omega) (by omega)
    rw [List.drop_length] at h2
    refine Ev_succ ?_
    simp only [spec_BesideOf.l0]
    refine evpos (by omega) ?_
    rw [Tr.wrap_id (by omega) (by omega)]
    refine h2 ?_
    rw [hbs] at h1 ⊢
    exact h1
theorem ev_Beside_impl_l0 (dl:List Int) (hd:dl.length≤1000) (bs:Nat→Int) (hbs:bs=fun v:Nat=>Tr.idx (rd dl (v:Int)) (dl.drop (v+1)) (v+1)):∀ (m v:Nat),v+m=dl.length →
    Ev (fun k=>impl_BesideOf.l0 k dl (Tr.each v bs) (dl.length:Int) (v:Int)) (Tr.each dl.length bs,0):=by
  intro m
  induction m with
  | zero =>
    intro v hv
    refine Ev_succ ?_
    simp only [impl_BesideOf.l0]
    refine evneg (by omega) (evnow ?_)
    have:v=dl.length:=by omega
    rw [this]
  | succ m ih =>
    intro v hv
    have h1:=ih (v+1) (by omega)
    rw [Tr.each_succ] at h1
    have hi:=ev_Index (dl.drop (v+1)) (rd dl (v:Int)) (by simp;omega)
    have hsh:=Tr.idx_shift (rd dl (v:Int)) (dl.drop (v+1)) 0 (v+1)
    have hrg:=Tr.idx_range (rd dl (v:Int)) (dl.drop (v+1)) 0
    rw [Nat.zero_add] at hsh
    have hbv:bs v=if 0≤Tr.idx (rd dl (v:Int)) (dl.drop (v+1)) 0 then Tr.idx (rd dl (v:Int)) (dl.drop (v+1)) 0+((v+1:Nat):Int) else -1:=by rw [hbs];exact hsh
    rw [hbv] at h1
    clear hbv hsh
    have hel:(Tr.each v bs).length=v:=Tr.each_len _ _
    refine Ev_succ ?_
    simp only [impl_BesideOf.l0]
    rw [Tr.wrap_succ (by omega),Int.toNat_natCast]
    generalize Tr.idx (rd dl (v:Int)) (dl.drop (v+1)) 0=x at hi hrg h1
    have hdl:(dl.drop (v+1)).length≤1000:=by simp;omega
    refine evpos (by omega) (evpos (by omega) (evpos (by omega) (evpos (by omega) (evpos (by omega) (Ev.bind hi ?_)))))
    by_cases hx:0≤x
    · rw [if_pos hx] at h1
      refine evpos hx (evpos (by omega) ?_)
      rw [Tr.wrap_id (by omega) (by omega)]
      exact h1
    · rw [if_neg hx] at h1
      have e:x=-1:=by omega
      rw [e] at hx ⊢
      exact evneg hx (evpos (by omega) h1)
theorem ev_BesideOf (d:List Int):∃ r:List Int × Int,Ev (fun k=>spec_BesideOf.f k d) r∧Ev (fun k=>impl_BesideOf.f k d) r∧r.1.length≤1000:=by
  rcases Tr.isT_cases d with h|⟨t,h⟩
  · refine ⟨([],1),?_,?_,by simp⟩
    · unfold spec_BesideOf.f;exact Ev.bind (ev_l01Is d) (evneg (by simp [h]) (Ev.now _))
    · unfold impl_BesideOf.f;exact Ev.bind (ev_IsTree d) (evneg (by simp [h]) (Ev.now _))
  · have hle:=h.le
    have hlen:=h.len
    have hdl:(Tr.depthsL t).length=t.size:=Tr.each_len _ _
    refine ⟨(Tr.each (Tr.depthsL t).length (fun v=>Tr.idx (rd (Tr.depthsL t) (v:Int)) ((Tr.depthsL t).drop (v+1)) (v+1)),0),?_,?_,?_⟩
    · unfold spec_BesideOf.f
      exact Ev.bind (ev_l01Is d) (evpos h.isT (Ev.bind (ev_l01Depths h) (ev_Beside_spec_l0 _ (by omega) _ rfl (Tr.depthsL t).length 0 (by omega))))
    · unfold impl_BesideOf.f
      refine Ev.bind (ev_IsTree d) (evpos h.isT (Ev.bind (ev_depthsOf h) ?_))
      rw [show (d.length:Int)=((Tr.depthsL t).length:Int) by omega]
      exact ev_Beside_impl_l0 _ (by omega) _ rfl (Tr.depthsL t).length 0 (by omega)
    · simp only [Tr.each_len];omega
theorem l08Half_eq (a:Int) (h0:0≤a) (h1:a≤1000000):spec_l08Half.f a=some (a / 2):=by
  unfold spec_l08Half.f
  rw [if_neg (by omega)]
  have e:Int.tdiv a 2=a / 2:=Int.tdiv_eq_ediv_of_nonneg h0
  rw [e,Tr.wrap_id (by omega) (by omega)]
theorem td_mn (a b:Int):mn a b=min a b:=by unfold mn;split <;> omega
theorem td_mx (a b:Int):mx a b=max a b:=by unfold mx;split <;> omega
theorem td_lo {P:List Td.Pt} {lo hi:List Int} {M:Int} (h:Td.LH (Td.On P) lo hi) (hb:Td.Bd M (P.map Prod.snd)) {i:Nat} (hi_:i<lo.length):(-M≤rd lo (i:Int)∧rd lo (i:Int)≤M)∧(-M≤rd hi (i:Int)∧rd hi (i:Int)≤M) :=
  ⟨hb _ (List.mem_map.mpr ⟨_,h.lo1 i hi_,rfl⟩),hb _ (List.mem_map.mpr ⟨_,h.hi1 i hi_,rfl⟩)⟩
theorem ev_draw_l1 {d R K oc cols lo hi ol oh:List Int} {N I:Int} {r:List Int × List Int × List Int} (L:Nat) (h1:L≤hi.length) (h2:L≤ol.length) (hL:L≤1000) (hb:∀ i:Nat,i<L→(-100000000000000000≤rd hi (i:Int)∧rd hi (i:Int)≤100000000000000000)∧(-100000000000000000≤rd ol (i:Int)∧rd ol (i:Int)≤100000000000000000))
    (hfin:Ev (fun k=>impl_draw.l2 k d R ((Td.nei hi ol L 0 none).getD 0) K N I (oc.length:Int) 0 cols lo hi oc ol oh) r):∀ (m i:Nat) (o:Option Int),i+m=L→Td.nei hi ol m i o=Td.nei hi ol L 0 none →
    Ev (fun k=>impl_draw.l1 k d R (o.getD 0) o.isNone K N I (L:Int) (i:Int) cols lo hi oc ol oh) r:=by
  intro m
  induction m with
  | zero =>
    intro i o hi_ ho
    refine Ev_succ ?_
    simp only [impl_draw.l1]
    refine evneg (by omega) ?_
    rw [← ho] at hfin
    exact hfin
  | succ m ih =>
    intro i o hi_ ho
    rw [Td.nei] at ho
    have hbi:=hb i (by omega)
    have e1:wrap64 (wrap64 (rd hi (i:Int)+2) - rd ol (i:Int))=rd hi (i:Int)+2 - rd ol (i:Int):=by rw [Tr.wrap_id (x:=rd hi (i:Int)+2) (by omega) (by omega),Tr.wrap_id (by omega) (by omega)]
    have hn:=ih (i+1) (Td.stp o (rd hi (i:Int)+2 - rd ol (i:Int))) (by omega) ho
    refine Ev_succ ?_
    simp only [impl_draw.l1,e1]
    clear e1
    generalize rd hi (i:Int)+2 - rd ol (i:Int)=x at hn ⊢
    clear ho hb hbi
    refine evpos (by omega) (evpos (by omega) (evpos (by omega) (evpos (by omega) ?_)))
    cases o with
    | none =>
      refine evpos rfl (Ev_succ ?_)
      simp only [impl_draw.j2]
      refine evpos trivial ?_
      rw [Tr.wrap_succ (by omega)]
      exact hn
    | some y =>
      refine evneg (by simp) (Ev_succ ?_)
      simp only [impl_draw.j2]
      unfold Td.stp at hn
      by_cases hx:x>y
      · simp only [hx,if_true] at hn
        refine evpos (by simpa using hx) ?_
        rw [Tr.wrap_succ (by omega)]
        exact hn
      · simp only [hx,if_false] at hn
        refine evneg (by simpa using hx) ?_
        rw [Tr.wrap_succ (by omega)]
        exact hn
theorem ev_draw_l2 {d R K cols lo hi ol oh:List Int} {N I b:Int} {r:List Int × List Int × List Int}:∀ (suf pre:List Int),(pre++suf).length≤1000→(∀ x∈suf,-1000000000000000000≤x+b∧x+b≤1000000000000000000) →
    Ev (fun k=>impl_draw.l3 k d R b K N I (ol.length:Int) 0 cols lo hi (pre++suf.map (·+b)) ol oh) r→Ev (fun k=>impl_draw.l2 k d R b K N I ((pre++suf).length:Int) (pre.length:Int) cols lo hi (pre++suf) ol oh) r:=by
  intro suf
  induction suf with
  | nil =>
    intro pre hl hb hr
    refine Ev_succ ?_
    simp only [impl_draw.l2]
    exact evneg (by simp) (by simpa using hr)
  | cons x suf ih =>
    intro pre hl hb hr
    have hl2:=hl
    rw [List.length_append,List.length_cons] at hl
    have hbx:=hb x (by simp)
    have e:rd (pre++x :: suf) (pre.length:Int)=x:=by rw [Tr.rd_app0];exact Tr.rd_cons0 _ _
    have e2:(pre++x :: suf).set ((pre.length:Int)).toNat (x+b)=(pre++[x+b])++suf:=by simp
    have e3:wrap64 (x+b)=x+b:=Tr.wrap_id (by omega) (by omega)
    have h:=ih (pre++[x+b]) (by simp only [List.length_append,List.length_cons,List.length_nil];omega) (fun y hy=>hb y (List.mem_cons_of_mem _ hy)) (by simpa using hr)
    refine Ev_succ ?_
    simp only [impl_draw.l2]
    refine evpos (by rw [List.length_append,List.length_cons];omega) (evpos (by omega) (evpos (by rw [List.length_append,List.length_cons];omega) ?_))
    rw [e,e3,e2,Tr.wrap_succ (by omega)]
    simp only [List.length_append,List.length_cons,List.length_nil,Nat.zero_add] at h ⊢
    rw [show pre.length+1+suf.length=pre.length+(suf.length+1) by omega] at h
    exact h
theorem td_setrd {l:List Int} {i j:Nat} {x:Int} (hj:j<l.length):rd (l.set i x) (j:Int)=if i=j then x else rd l (j:Int):=by
  rw [Tr.rd_getElem (by rw [List.length_set];exact hj),Tr.rd_getElem hj,List.getElem_set]
theorem ev_draw_l3 {d R K cols oc ol oh:List Int} {N I b M:Int} {P Q:List Td.Pt} {X:(List Int × List Int × List Int)→Prop} (hq:Td.LH (Td.On Q) ol oh) (hM:0≤M∧M≤100000000000000000) (hQ:Td.Bd M (Q.map Prod.snd)) (hb:-M≤b∧b≤M) (hol:ol.length≤1000)
    (hfin:∀ lo hi,Td.LH (Td.On (P++Td.shf b Q)) lo hi→∃ r,X r∧Ev (fun k=>(if 0<(oc.length:Int) then (if R.length<17592186044416 then (if cols.length+oc.length<17592186044416 then (impl_draw.l0 k d (R++[rd oc 0]) K N (wrap64 (I+1)) (cols++oc) lo hi) else (none)) else (none)) else (none))) r):∀ (m i:Nat) (lo hi:List Int),i+m=ol.length→i≤lo.length→lo.length≤1000→Td.LH (fun e c=>Td.On P e c∨(e<(i:Int)∧Td.On (Td.shf b Q) e c)) lo hi →
    ∃ r,X r∧Ev (fun k=>impl_draw.l3 k d R b K N I (ol.length:Int) (i:Int) cols lo hi oc ol oh) r:=by
  have hon:∀ e c,Td.On (Td.shf b Q) e c↔Td.On Q e (c - b):=fun e c=>by
    unfold Td.On Td.shf
    rw [List.mem_map]
    constructor
    · rintro ⟨q,h1,h2⟩
      simp only [Prod.mk.injEq] at h2
      rw [← h2.1,← h2.2,show q.2+b - b=q.2 by omega];exact h1
    · intro h1;exact ⟨(e,c - b),h1,by simp⟩
  intro m
  induction m with
  | zero =>
    intro i lo hi hi_ hil hll h
    obtain ⟨r,h1,h2⟩:=hfin lo hi (h.congr (fun e c=>by
      unfold Td.On
      rw [List.mem_append]
      constructor
      · rintro (h3|⟨_,h3⟩)
        · exact .inl h3
        · exact .inr h3
      · rintro (h3|h3)
        · exact .inl h3
        · refine .inr ⟨?_,h3⟩
          have:=hq.dep e (c - b) ((hon e c).mp h3)
          omega))
    refine ⟨r,h1,Ev_succ ?_⟩
    simp only [impl_draw.l3]
    exact evneg (by omega) h2
  | succ m ih =>
    intro i lo hi hi_ hil hll h
    have hio:i<ol.length:=by omega
    have hoh:=hq.len
    have hhl:=h.len
    obtain ⟨b1,b2⟩:=td_lo hq hQ hio
    have ex:wrap64 (rd ol (i:Int)+b)=rd ol (i:Int)+b:=Tr.wrap_id (by omega) (by omega)
    have ey:wrap64 (rd oh (i:Int)+b)=rd oh (i:Int)+b:=Tr.wrap_id (by omega) (by omega)
    have hlast:∀ lo1 hi1:List Int,lo1.length=max lo.length (i+1)→hi1.length=max lo.length (i+1)→(∀ j:Nat,j<lo.length→rd lo1 (j:Int)=rd lo (j:Int)∧rd hi1 (j:Int)=rd hi (j:Int))→(i=lo.length→rd lo1 (i:Int)=rd ol (i:Int)+b∧rd hi1 (i:Int)=rd oh (i:Int)+b) →
        ∃ r,X r∧Ev (fun k=>impl_draw.j5 k d R b (i:Int) K N I (ol.length:Int) (i:Int) cols lo1 hi1 oc ol oh) r:=by
      intro lo1 hi1 l1 l2 hj hn
      have hst:=Td.LH.step (T:=Td.On (Td.shf b Q)) (lo':=lo1.set i (min (rd lo1 (i:Int)) (rd ol (i:Int)+b))) (hi':=hi1.set i (max (rd hi1 (i:Int)) (rd oh (i:Int)+b))) (i:=i) (x:=rd ol (i:Int)+b) (y:=rd oh (i:Int)+b) h hil
        ((hon _ _).mpr (by rw [show rd ol (i:Int)+b - b=rd ol (i:Int) by omega];exact hq.lo1 i hio)) (fun c hc=>by have:=hq.lo2 i hio _ ((hon _ _).mp hc);omega)
        ((hon _ _).mpr (by rw [show rd oh (i:Int)+b - b=rd oh (i:Int) by omega];exact hq.hi1 i hio)) (fun c hc=>by have:=hq.hi2 i hio _ ((hon _ _).mp hc);omega)
        (by rw [List.length_set];exact l1) (by rw [List.length_set];exact l2)
        (fun j h1 h2=>by rw [td_setrd (by omega),td_setrd (by omega),if_neg (fun e=>h2 e.symm),if_neg (fun e=>h2 e.symm)];exact hj j h1)
        (fun h1=>by rw [td_setrd (by omega),td_setrd (by omega),if_pos rfl,if_pos rfl,(hj i h1).1,(hj i h1).2];exact ⟨rfl,rfl⟩)
        (fun h1=>by rw [td_setrd (by omega),td_setrd (by omega),if_pos rfl,if_pos rfl,(hn h1).1,(hn h1).2];omega)
      obtain ⟨r,h3,h4⟩:=ih (i+1) _ _ (by omega) (by rw [List.length_set];omega) (by rw [List.length_set];omega) (hst.congr (fun e c=>by
        constructor
        · rintro ((h5|⟨h5,h6⟩)|⟨h5,h6⟩)
          · exact .inl h5
          · exact .inr ⟨by omega,h6⟩
          · exact .inr ⟨by omega,h6⟩
        · rintro (h5|⟨h5,h6⟩)
          · exact .inl (.inl h5)
          · by_cases e2:e=(i:Int)
            · exact .inr ⟨e2,h6⟩
            · exact .inl (.inr ⟨by omega,h6⟩)))
      refine ⟨r,h3,Ev_succ ?_⟩
      simp only [impl_draw.j5,ex,ey]
      clear ex ey
      refine evpos (by omega) (evpos (by omega) (evpos (by omega) (evpos (by omega) (evpos (by omega) ?_))))
      rw [td_mn,td_mx,Tr.wrap_succ (by omega),Int.toNat_natCast]
      exact h4
    by_cases hc:i=lo.length
    · obtain ⟨r,h3,h4⟩:=hlast (lo++[rd ol (i:Int)+b]) (hi++[rd oh (i:Int)+b]) (by simp;omega) (by simp;omega) (fun j hj=>⟨Tr.rd_left _ _ _ (by omega) (by omega),Tr.rd_left _ _ _ (by omega) (by omega)⟩) (fun _=>by
        rw [hc,Tr.rd_app0,Tr.rd_cons0]
        refine ⟨rfl,?_⟩
        rw [hhl,Tr.rd_app0,Tr.rd_cons0])
      refine ⟨r,h3,Ev_succ ?_⟩
      simp only [impl_draw.l3,ex,ey]
      clear ex ey
      exact evpos (by omega) (evpos (by omega) (evpos (by omega) (evpos (by omega) (evpos (by omega) (evpos (by omega) (evpos (by omega) h4))))))
    · obtain ⟨r,h3,h4⟩:=hlast lo hi (by omega) (by omega) (fun j hj=>⟨rfl,rfl⟩) (fun e=>absurd e hc)
      refine ⟨r,h3,Ev_succ ?_⟩
      simp only [impl_draw.l3]
      clear ex ey
      exact evpos (by omega) (evneg (by omega) h4)
theorem td_concat (x:Int) (l:List Int) (h:l.length≤1000):slices_Concat.f [[x],l]=some (x :: l):=by
  unfold slices_Concat.f
  rw [if_pos ⟨by simp,by simp;omega⟩]
  simp
theorem ev_draw_l0 {d:List Int} (hd:d.length≤1000):∀ (g:Tr.F) (p i:Nat) (K:List Int) (s:List Td.Pt × List Int) (lo hi:List Int),Tr.Pl d p g→K.drop i=g.roots p→i+g.len=K.length→Td.Ok s→s.1.length+g.size≤24→K.length≤24→s.2.length=i→(∀ q∈s.1,q.1≤24)→Td.LH (Td.On s.1) lo hi →
    ∃ r:List Int × List Int × List Int,(∃ lo' hi',Td.LH (Td.On (Td.pl g s).1) lo' hi'∧r=(Td.rt (Td.pl g s).2 :: (Td.pl g s).1.map Prod.snd,Td.rt (Td.pl g s).2 :: lo',Td.rt (Td.pl g s).2 :: hi'))∧Ev (fun k=>impl_draw.l0 k d s.2 K (K.length:Int) (i:Int) (s.1.map Prod.snd) lo hi) r:=by
  intro g
  induction g with
  | nil =>
    intro p i K s lo hi hp hK hi_ hs hsz hKl hR hdp h
    simp only [Tr.F.len] at hi_
    have hfew:=h.few (M:=24) hdp
    have hl:=h.len
    have hpw:=Td.pow_small (n:=s.1.length) (by omega)
    have hpg:=Td.pow_ge s.1.length
    simp only [Tr.F.size] at hsz
    refine ⟨_,⟨lo,hi,h,rfl⟩,Ev_succ ?_⟩
    simp only [impl_draw.l0,Td.pl]
    refine evneg (by omega) ?_
    have hj:∀ x:Int,Ev (fun k=>impl_draw.j6 k x (s.1.map Prod.snd) lo hi) (x :: s.1.map Prod.snd,x :: lo,x :: hi):=fun x=>by
      refine Ev_succ ?_
      simp only [impl_draw.j6]
      rw [Option.bind_some,td_concat _ _ (by rw [List.length_map];omega),td_concat _ _ (by omega),td_concat _ _ (by omega)]
      exact Ev.now _
    by_cases h0:s.2=[]
    · rw [h0]
      refine evneg (by simp) ?_
      have:Td.rt []=0:=rfl
      rw [this]
      exact hj 0
    · have hlen:1≤s.2.length:=by
        cases hc:s.2 with
        | nil=>exact absurd hc h0
        | cons a l=>simp
      have ew:wrap64 ((s.2.length:Int) - 1)=(s.2.length:Int) - 1:=Tr.wrap_id (by omega) (by omega)
      have b1:=Td.rd_in hs.2.1 (by omega) 0
      have b2:=Td.rd_in hs.2.1 (by omega) ((s.2.length:Int) - 1)
      have ew2:wrap64 (rd s.2 0+rd s.2 ((s.2.length:Int) - 1))=rd s.2 0+rd s.2 ((s.2.length:Int) - 1):=Tr.wrap_id (by omega) (by omega)
      rw [ew,ew2]
      clear ew ew2
      have hrt:Td.rt s.2=(rd s.2 0+rd s.2 ((s.2.length:Int) - 1)) / 2:=by unfold Td.rt;rw [if_neg h0]
      rw [hrt]
      clear b1 b2 hrt
      exact evpos (by omega) (evpos (by omega) (evpos (by omega) (evpos (by omega) (hj _))))
  | cons b n ihb ihn =>
    intro p i K s lo hi hp hK hi_ hs hsz hKl hR hdp h
    simp only [Tr.F.len] at hi_
    simp only [Tr.F.size] at hsz
    have hi2:i<K.length:=by omega
    have hKi:K[i]=(p:Int)∧K.drop (i+1)=n.roots (p+1+b.size):=by
      rw [List.drop_eq_getElem_cons hi2] at hK
      exact ⟨(List.cons.inj hK).1,(List.cons.inj hK).2⟩
    have hbl:=Tr.F.len_le b
    obtain ⟨rb,⟨ol0,oh0,hLb,rfl⟩,hEb⟩:=ihb (p+1) 0 (b.roots (p+1)) ([],[]) [] [] hp.below rfl (by rw [Tr.F.roots_len];omega) Td.ok_nil (by simp;omega) (by rw [Tr.F.roots_len];omega) rfl (fun q hq=>by simp at hq) Td.LH.nil
    have hf:Ev (fun k=>impl_draw.f k d (p:Int)) (Td.rt (Td.pl b ([],[])).2 :: (Td.pl b ([],[])).1.map Prod.snd,Td.rt (Td.pl b ([],[])).2 :: ol0,Td.rt (Td.pl b ([],[])).2 :: oh0):=by
      refine Ev_succ ?_
      simp only [impl_draw.f]
      exact Ev.bind (ev_kidsOf hd hp) hEb
    have hq:=Td.LH.tre hLb
    have hcols:(Td.tre (Td.pl b ([],[]))).map Prod.snd=Td.rt (Td.pl b ([],[])).2 :: (Td.pl b ([],[])).1.map Prod.snd:=by simp [Td.tre,Function.comp_def]
    have hokb:=Td.ok_pl b _ Td.ok_nil
    have hokn:=Td.ok_add hs hokb
    have hblen:=Td.pl_len b ([],[])
    simp only [List.length_nil,Nat.zero_add] at hblen
    have htl:(Td.tre (Td.pl b ([],[]))).length=b.size+1:=by simp [Td.tre,hblen]
    have hpA:=Td.pow_small (n:=s.1.length) (by omega)
    have hpB:=Td.pow_small (n:=(Td.pl b ([],[])).1.length) (by omega)
    have hQb:=Td.tre_in hokb
    have hmv:=Td.mv_in hs.1 hQb (by have:=Td.pow_ge s.1.length;omega) (by have:=Td.pow_ge (Td.pl b ([],[])).1.length;omega)
    have hQb':=hQb.mono (M':=1000000000000000) (by omega)
    have hP':=hs.1.mono (M':=1000000000000000) (by omega)
    have hmv':-1000000000000000≤Td.mv s.1 (Td.tre (Td.pl b ([],[])))∧Td.mv s.1 (Td.tre (Td.pl b ([],[])))≤1000000000000000:=by omega
    clear hmv hpA hpB hQb
    have hdq:∀ q∈Td.tre (Td.pl b ([],[])),q.1≤((24:Nat):Int):=fun q hq_=>by have:=Td.tre_dep hq_;omega
    have hfewo:=hq.few hdq
    have hfewl:=h.few (M:=24) hdp
    have hln:=h.len
    have hby:=Td.nei_ned h hq
    simp only [Td.pl]
    generalize hQe:Td.tre (Td.pl b ([],[]))=Q at *
    generalize hre:Td.rt (Td.pl b ([],[])).2=ρ at *
    generalize hol:ρ :: ol0=ol at *
    generalize hoh:ρ :: oh0=oh at *
    have hl3:=ev_draw_l3 (d:=d) (R:=s.2) (K:=K) (cols:=s.1.map Prod.snd) (oc:=(Q.map Prod.snd).map (·+Td.mv s.1 Q)) (N:=(K.length:Int)) (I:=(i:Int)) (b:=Td.mv s.1 Q) (P:=s.1) (M:=1000000000000000) (X:=fun r=>∃ lo' hi',Td.LH (Td.On (Td.pl n (s.1++Td.shf (Td.mv s.1 Q) Q,s.2++[ρ+Td.mv s.1 Q])).1) lo' hi'∧r=(Td.rt (Td.pl n (s.1++Td.shf (Td.mv s.1 Q) Q,s.2++[ρ+Td.mv s.1 Q])).2 :: (Td.pl n (s.1++Td.shf (Td.mv s.1 Q) Q,s.2++[ρ+Td.mv s.1 Q])).1.map Prod.snd,Td.rt (Td.pl n (s.1++Td.shf (Td.mv s.1 Q) Q,s.2++[ρ+Td.mv s.1 Q])).2 :: lo',Td.rt (Td.pl n (s.1++Td.shf (Td.mv s.1 Q) Q,s.2++[ρ+Td.mv s.1 Q])).2 :: hi'))
      hq (by omega) hQb' hmv' (by omega) (fun lo1 hi1 hLH=>by
        obtain ⟨r,hX,hE⟩:=ihn (p+1+b.size) (i+1) K (s.1++Td.shf (Td.mv s.1 Q) Q,s.2++[ρ+Td.mv s.1 Q]) lo1 hi1 hp.next hKi.2 (by omega) hokn (by simp only [List.length_append,Td.shf,List.length_map,htl];omega) hKl (by simp [hR]) (fun q hq_=>by
          rcases List.mem_append.mp hq_ with h1|h1
          · exact hdp q h1
          · obtain ⟨q',h2,h3⟩:=Td.shf_mem h1
            rw [h3];exact hdq q' h2) hLH
        refine ⟨r,hX,?_⟩
        have hrd:rd ((Q.map Prod.snd).map (·+Td.mv s.1 Q)) 0=ρ+Td.mv s.1 Q:=by rw [hcols,List.map_cons,Tr.rd_cons0]
        rw [hrd,Tr.wrap_succ (by omega)]
        simp only [List.map_append,Td.shf_snd] at hE
        refine evpos (by rw [hcols,List.map_cons,List.length_cons];omega) (evpos (by omega) (evpos (by simp only [List.length_map];omega) hE)))
      ol.length 0 lo hi (by omega) (by omega) (by omega) (h.congr (fun e c=>⟨fun h1=>.inl h1,fun h1=>h1.elim id (fun h2=>by
        have h3:=h2.1
        obtain ⟨q',h4,h5⟩:=Td.shf_mem h2.2
        have:=hq.dep q'.1 q'.2 h4
        simp only at h5
        omega)⟩))
    obtain ⟨r,hX,hE3⟩:=hl3
    refine ⟨r,hX,Ev_succ ?_⟩
    have hE2:=ev_draw_l2 (d:=d) (R:=s.2) (K:=K) (cols:=s.1.map Prod.snd) (lo:=lo) (hi:=hi) (ol:=ol) (oh:=oh) (N:=(K.length:Int)) (I:=(i:Int)) (b:=Td.mv s.1 Q) (r:=r) (Q.map Prod.snd) [] (by simp only [List.nil_append,List.length_map];omega) (fun x hx=>by have:=hQb' x hx;omega) (by simpa using hE3)
    simp only [List.nil_append,List.length_nil] at hE2
    have hE1:=ev_draw_l1 (d:=d) (R:=s.2) (K:=K) (oc:=Q.map Prod.snd) (cols:=s.1.map Prod.snd) (lo:=lo) (hi:=hi) (ol:=ol) (oh:=oh) (N:=(K.length:Int)) (I:=(i:Int)) (r:=r) (min hi.length ol.length) (by omega) (by omega) (by omega) (fun j hj=>by
      have h1:=(td_lo h hP' (i:=j) (by omega)).2
      have h2:=(td_lo hq hQb' (i:=j) (by omega)).1
      omega) (by rw [hby];exact hE2) (min hi.length ol.length) 0 none (by omega) rfl
    simp only [impl_draw.l0]
    refine evpos (by omega) (evpos (by omega) (evpos (by omega) ?_))
    rw [Tr.rd_getElem hi2,hKi.1]
    refine Ev.bind hf ?_
    dsimp only
    rw [← hcols,show mn (hi.length:Int) (ol.length:Int)=((min hi.length ol.length:Nat):Int) by rw [td_mn];omega]
    exact hE1
theorem ev_draw {d:List Int} {b:Tr.F} (hd:d.length≤24) (hp:Tr.Pl d 0 (.cons b .nil)):∃ lo hi:List Int,Ev (fun k=>impl_draw.f k d 0) ((Td.tre (Td.pl b ([],[]))).map Prod.snd,lo,hi):=by
  have hle:=hp.le
  simp only [Tr.F.size] at hle
  have hbl:=Tr.F.len_le b
  obtain ⟨rb,⟨ol0,oh0,hLb,rfl⟩,hEb⟩:=ev_draw_l0 (d:=d) (by omega) b 1 0 (b.roots 1) ([],[]) [] [] hp.below rfl (by rw [Tr.F.roots_len];omega) Td.ok_nil (by simp;omega) (by rw [Tr.F.roots_len];omega) rfl (fun q hq=>by simp at hq) Td.LH.nil
  have hcols:(Td.tre (Td.pl b ([],[]))).map Prod.snd=Td.rt (Td.pl b ([],[])).2 :: (Td.pl b ([],[])).1.map Prod.snd:=by simp [Td.tre,Function.comp_def]
  refine ⟨Td.rt (Td.pl b ([],[])).2 :: ol0,Td.rt (Td.pl b ([],[])).2 :: oh0,Ev_succ ?_⟩
  simp only [impl_draw.f]
  rw [hcols]
  exact Ev.bind (ev_kidsOf (by omega) hp) hEb
section
variable {D d x7 K:List Int} {v i:Int}
theorem ev_l08Tidy_l2 {Q:List Td.Pt} {p:Td.Pt} {w c:Nat} {κ:Int} {r:List Int} (a:Nat) (hw:v=(w:Int)) (hwb:w≤1000) (hc:rd K i=(c:Int)) (hcb:c≤1000) (hi0:0≤i) (hi1:i<(K.length:Int)) (ha:a≤1000) (ha1:a<x7.length) (hx7:rd x7 (a:Int)=p.2)
    (hDa:w+a<D.length∧rd D ((w+a:Nat):Int)=κ+p.1) (hDb:∀ b:Nat,b<Q.length→c+b<D.length∧rd D ((c+b:Nat):Int)=κ+rd (Q.map Prod.fst) (b:Int)) (hb:(-100000000000000000≤p.2∧p.2≤100000000000000000)∧Td.Bd 100000000000000000 (Q.map Prod.snd)) (hQ:Q.length≤1000):∀ (S Pre:List Td.Pt) (o:Option Int),Q=Pre++S →
    Ev (fun k=>spec_l08Tidy.l1 k D v x7 K i (Q.map Prod.snd) ((Td.ned1 p S o).getD 0) (Td.ned1 p S o).isNone ((a+1:Nat):Int) d) r→Ev (fun k=>spec_l08Tidy.l2 k D v x7 K i (Q.map Prod.snd) (o.getD 0) o.isNone (a:Int) (Pre.length:Int) d) r:=by
  intro S
  induction S with
  | nil =>
    intro Pre o hS hr
    rw [List.append_nil] at hS
    subst hS
    refine Ev_succ ?_
    simp only [spec_l08Tidy.l2]
    refine evneg (by rw [List.length_map];omega) ?_
    rw [Tr.wrap_succ (by omega)]
    exact hr
  | cons q S ih =>
    intro Pre o hS hr
    have hlen:Q.length=Pre.length+(S.length+1):=by rw [hS];simp
    obtain ⟨h1,h2⟩:=hDb Pre.length (by omega)
    have hqf:rd (Q.map Prod.fst) (Pre.length:Int)=q.1:=by
      rw [hS,List.map_append,List.map_cons,show (Pre.length:Int)=((Pre.map Prod.fst).length:Int) by rw [List.length_map],Tr.rd_app0,Tr.rd_cons0]
    have hqs:rd (Q.map Prod.snd) (Pre.length:Int)=q.2:=by
      rw [hS,List.map_append,List.map_cons,show (Pre.length:Int)=((Pre.map Prod.snd).length:Int) by rw [List.length_map],Tr.rd_app0,Tr.rd_cons0]
    have hqb:=hb.2 q.2 (List.mem_map.mpr ⟨q,by rw [hS];simp,rfl⟩)
    have hpb:=hb.1
    rw [hqf] at h2
    have e1:wrap64 (v+(a:Int))=((w+a:Nat):Int):=by rw [Tr.wrap_id (by omega) (by omega)];omega
    have e2:wrap64 (rd K i+(Pre.length:Int))=((c+Pre.length:Nat):Int):=by rw [hc,Tr.wrap_id (by omega) (by omega)];omega
    have e3:wrap64 (wrap64 (p.2+2) - q.2)=p.2+2 - q.2:=by rw [Tr.wrap_id (x:=p.2+2) (by omega) (by omega),Tr.wrap_id (by omega) (by omega)]
    have e4:wrap64 ((Pre.length:Int)+1)=((Pre++[q]).length:Int):=by rw [Tr.wrap_id (by omega) (by omega)];simp
    have hn:=fun o' h=>ih (Pre++[q]) o' (by rw [hS];simp) h
    rw [Td.ned1] at hr
    refine Ev_succ ?_
    simp only [spec_l08Tidy.l2,e1,e2,hx7,hqs,e3,e4]
    rw [hDa.2,h2]
    clear e1 e2 e3 e4
    refine evpos (by rw [List.length_map];omega) (evpos (by omega) (evpos (by omega) (evpos hi0 (evpos hi1 (evpos (by omega) (evpos (by omega) ?_))))))
    by_cases hpq:p.1=q.1
    · rw [if_pos hpq] at hr
      refine evpos (by omega) (evpos (by omega) (evpos (by omega) (evpos (by omega) ?_)))
      generalize p.2+2 - q.2=x at hr ⊢
      cases o with
      | none=>exact evpos rfl (hn (some x) hr)
      | some y =>
        refine evneg (by simp) ?_
        unfold Td.stp at hr
        by_cases hx:x>y
        · simp only [hx,if_true] at hr
          exact evpos hx (hn (some x) hr)
        · simp only [hx,if_false] at hr
          exact evneg hx (hn (some y) hr)
    · rw [if_neg hpq] at hr
      exact evneg (by omega) (hn o hr)
theorem ev_l08Tidy_l1 {P Q:List Td.Pt} {w c:Nat} {κ:Int} {r:List Int} (hw:v=(w:Int)) (hwb:w≤1000) (hc:rd K i=(c:Int)) (hcb:c≤1000) (hi0:0≤i) (hi1:i<(K.length:Int)) (hx7:x7=0 :: P.map Prod.snd) (hPl:P.length≤900)
    (hDa:∀ a:Nat,a<P.length→w+1+a<D.length∧rd D ((w+1+a:Nat):Int)=κ+rd (P.map Prod.fst) (a:Int)) (hDb:∀ b:Nat,b<Q.length→c+b<D.length∧rd D ((c+b:Nat):Int)=κ+rd (Q.map Prod.fst) (b:Int)) (hP:Td.Bd 100000000000000000 (P.map Prod.snd)) (hQb:Td.Bd 100000000000000000 (Q.map Prod.snd)) (hQ:Q.length≤1000):∀ (S Pre:List Td.Pt) (o:Option Int),P=Pre++S →
    Ev (fun k=>spec_l08Tidy.l3 k D v x7 K i (Q.map Prod.snd) ((Td.ned Q S o).getD 0) 0 d) r→Ev (fun k=>spec_l08Tidy.l1 k D v x7 K i (Q.map Prod.snd) (o.getD 0) o.isNone ((Pre.length+1:Nat):Int) d) r:=by
  have hxl:x7.length=P.length+1:=by rw [hx7];simp
  intro S
  induction S with
  | nil =>
    intro Pre o hS hr
    rw [List.append_nil] at hS
    subst hS
    refine Ev_succ ?_
    simp only [spec_l08Tidy.l1]
    exact evneg (by omega) hr
  | cons p S ih =>
    intro Pre o hS hr
    have hlen:P.length=Pre.length+(S.length+1):=by rw [hS];simp
    obtain ⟨h1,h2⟩:=hDa Pre.length (by omega)
    have hpf:rd (P.map Prod.fst) (Pre.length:Int)=p.1:=by
      rw [hS,List.map_append,List.map_cons,show (Pre.length:Int)=((Pre.map Prod.fst).length:Int) by rw [List.length_map],Tr.rd_app0,Tr.rd_cons0]
    have hps:rd x7 ((Pre.length+1:Nat):Int)=p.2:=by
      rw [hx7,hS,List.map_append,List.map_cons,show (0:Int) :: (Pre.map Prod.snd++p.2 :: S.map Prod.snd)=(0 :: Pre.map Prod.snd)++p.2 :: S.map Prod.snd from rfl,show ((Pre.length+1:Nat):Int)=(((0:Int) :: Pre.map Prod.snd).length:Int) by simp,Tr.rd_app0,Tr.rd_cons0]
    rw [hpf] at h2
    rw [Td.ned] at hr
    have hn:=ih (Pre++[p]) (Td.ned1 p Q o) (by rw [hS];simp) hr
    simp only [List.length_append,List.length_singleton] at hn
    refine Ev_succ ?_
    simp only [spec_l08Tidy.l1]
    refine evpos (by omega) ?_
    exact ev_l08Tidy_l2 (Q:=Q) (p:=p) (Pre.length+1) hw hwb hc hcb hi0 hi1 (by omega) (by omega) hps ⟨by omega,by rw [show w+(Pre.length+1)=w+1+Pre.length by omega];exact h2⟩ hDb ⟨hP p.2 (List.mem_map.mpr ⟨p,by rw [hS];simp,rfl⟩),hQb⟩ hQ Q [] o rfl hn
theorem ev_l08Tidy_l3 {b:Int} {r:List Int}:∀ (S Pre acc:List Int),(Pre++S).length≤1000→acc.length+S.length≤1000000→(∀ x∈S,-1000000000000000000≤x+b∧x+b≤1000000000000000000) →
    Ev (fun k=>spec_l08Tidy.l0 k D v (acc++S.map (·+b)) K (wrap64 (i+1)) d) r→Ev (fun k=>spec_l08Tidy.l3 k D v acc K i (Pre++S) b (Pre.length:Int) d) r:=by
  intro S
  induction S with
  | nil =>
    intro Pre acc hl hb hs hr
    refine Ev_succ ?_
    simp only [spec_l08Tidy.l3]
    exact evneg (by simp) (by simpa using hr)
  | cons x S ih =>
    intro Pre acc hl hb hs hr
    have hl2:=hl
    rw [List.length_append,List.length_cons] at hl
    have hbx:=hs x (by simp)
    have e:rd (Pre++x :: S) (Pre.length:Int)=x:=by rw [Tr.rd_app0];exact Tr.rd_cons0 _ _
    have e3:wrap64 (x+b)=x+b:=Tr.wrap_id (by omega) (by omega)
    have e4:wrap64 ((Pre.length:Int)+1)=((Pre++[x]).length:Int):=by rw [Tr.wrap_id (by omega) (by omega)];simp
    have h:=ih (Pre++[x]) (acc++[x+b]) (by simpa using hl2) (by
      rw [List.length_append,List.length_singleton]
      rw [List.length_cons] at hb;omega) (fun y hy=>hs y (List.mem_cons_of_mem _ hy)) (by simpa using hr)
    refine Ev_succ ?_
    simp only [spec_l08Tidy.l3]
    refine evpos (by rw [List.length_append,List.length_cons];omega) (evpos (by omega) (evpos (by omega) ?_))
    rw [e,e3,e4]
    simpa using h
end
theorem l08Half_all (a:Int) (h0:-1000000000000000000≤a) (h1:a≤1000000000000000000):spec_l08Half.f a=some (a / 2):=by
  unfold spec_l08Half.f
  by_cases h:a<0
  · rw [if_pos h,Tr.wrap_id (x:=1 - a) (by omega) (by omega),Int.tdiv_eq_ediv_of_nonneg (by omega),Tr.wrap_id (x:=(1 - a) / 2) (by omega) (by omega),Tr.wrap_id (by omega) (by omega)]
    congr 1;omega
  · rw [if_neg h,Int.tdiv_eq_ediv_of_nonneg (by omega),Tr.wrap_id (by omega) (by omega)]
theorem td_rdc (x:Int) (l:List Int) (j:Nat):rd (x :: l) ((j+1:Nat):Int)=rd l (j:Int):=by simp [rd,List.getD_eq_getElem?_getD]
theorem ev_l08Tidy_l0 {d D:List Int} (hd:d.length≤100):∀ (g:Tr.F) (p i:Nat) (K:List Int) (s:List Td.Pt × List Int) (w:Nat) (κ:Int),Tr.Pl d p g→K.drop i=g.roots p→i+g.len=K.length→Td.Ok s→s.1.length+g.size≤24→K.length≤24→s.2.length=i→p=w+1+s.1.length →
    (∀ j:Nat,j<s.1.length+g.size→w+1+j<D.length∧rd D ((w+1+j:Nat):Int)=κ+rd (s.1.map Prod.fst++g.depths 0) (j:Int))→(∀ j:Nat,j<i→∃ m:Nat,rd K (j:Int)=((w+1+m:Nat):Int)∧m<s.1.length∧rd (s.1.map Prod.snd) (m:Int)=rd s.2 (j:Int))→(0<i→rd (s.1.map Prod.snd) 0=rd s.2 0)→(i=0→s.1=[]) →
    Ev (fun k=>spec_l08Tidy.l0 k D (w:Int) (0 :: s.1.map Prod.snd) K (i:Int) d) (Td.rt (Td.pl g s).2 :: (Td.pl g s).1.map Prod.snd):=by
  intro g
  induction g with
  | nil =>
    intro p i K s w κ hp hK hi_ hs hsz hKl hR hpw hD hKm hK0 hz
    simp only [Tr.F.len] at hi_
    simp only [Tr.F.size] at hsz
    have hple:=hp.le
    have hpw2:=Td.pow_small (n:=s.1.length) (by omega)
    have hpg:=Td.pow_ge s.1.length
    refine Ev_succ ?_
    simp only [spec_l08Tidy.l0,Td.pl]
    refine evneg (by omega) ?_
    by_cases h0:i=0
    · have hs2:s.2=[]:=List.length_eq_zero_iff.mp (by omega)
      have:Td.rt s.2=0:=by rw [hs2];rfl
      rw [this]
      exact evneg (by omega) (Ev.now _)
    · obtain ⟨m,hm1,hm2,hm3⟩:=hKm (i - 1) (by omega)
      have hk0:=hK0 (by omega)
      have ew:wrap64 ((K.length:Int) - 1)=((i - 1:Nat):Int):=by rw [Tr.wrap_id (by omega) (by omega)];omega
      have ew2:wrap64 (((w+1+m:Nat):Int) - (w:Int))=((m+1:Nat):Int):=by rw [Tr.wrap_id (by omega) (by omega)];omega
      have b1:=Td.rd_in hs.2.1 (by omega) 0
      have b2:=Td.rd_in hs.2.1 (by omega) ((i - 1:Nat):Int)
      have hrt:Td.rt s.2=(rd s.2 0+rd s.2 ((i - 1:Nat):Int)) / 2:=by
        unfold Td.rt
        rw [if_neg (fun e=>by rw [e] at hR;simp at hR;omega),hR,show ((i:Int) - 1)=((i - 1:Nat):Int) by omega]
      have er1:rd (0 :: s.1.map Prod.snd) 1=rd s.2 0:=by
        have:=td_rdc 0 (s.1.map Prod.snd) 0
        rw [← hk0];exact this
      have er2:rd (0 :: s.1.map Prod.snd) ((m+1:Nat):Int)=rd s.2 ((i - 1:Nat):Int):=by rw [td_rdc,hm3]
      have ew3:wrap64 (rd s.2 0+rd s.2 ((i - 1:Nat):Int))=rd s.2 0+rd s.2 ((i - 1:Nat):Int):=Tr.wrap_id (by omega) (by omega)
      rw [ew,hm1,ew2,er1,er2,ew3,l08Half_all _ (by omega) (by omega),hrt]
      clear ew ew2 er1 er2 ew3 hrt b1 b2 hD hKm
      have hcl:((0:Int) :: s.1.map Prod.snd).length=s.1.length+1:=by simp
      rw [hcl]
      exact evpos (by omega) (evpos (by omega) (evpos (by omega) (evpos (by omega) (evpos (by omega) (evpos (by omega) (evsome (evpos (by omega) (Ev.now _))))))))
  | cons b n ihb ihn =>
    intro p i K s w κ hp hK hi_ hs hsz hKl hR hpw hD hKm hK0 hz
    simp only [Tr.F.len] at hi_
    simp only [Tr.F.size] at hsz hD
    have hple:=hp.le
    simp only [Tr.F.size] at hple
    have hi2:i<K.length:=by omega
    have hKi:K[i]=(p:Int)∧K.drop (i+1)=n.roots (p+1+b.size):=by
      rw [List.drop_eq_getElem_cons hi2] at hK
      exact ⟨(List.cons.inj hK).1,(List.cons.inj hK).2⟩
    have hKr:rd K (i:Int)=(p:Int):=by rw [Tr.rd_getElem hi2];exact hKi.1
    have hbl:=Tr.F.len_le b
    have hfl:(s.1.map Prod.fst).length=s.1.length:=List.length_map ..
    have hdl:(b.depths 1).length=b.size:=Tr.F.depths_len b 1
    have hDsplit:(Tr.F.cons b n).depths 0=0 :: (b.depths 1++n.depths 0):=rfl
    rw [hDsplit] at hD
    have hDb:∀ j:Nat,j<b.size+1→p+j<D.length∧rd D ((p+j:Nat):Int)=κ+rd (0 :: b.depths 1) (j:Int):=fun j hj=>by
      obtain ⟨h1,h2⟩:=hD (s.1.length+j) (by omega)
      rw [← hfl,Tr.rd_app,hfl,show (0:Int) :: (b.depths 1++n.depths 0)=(0 :: b.depths 1)++n.depths 0 from rfl,Tr.rd_left _ _ _ (by omega) (by simp only [List.length_cons,hdl];omega)] at h2
      rw [hpw]
      exact ⟨by omega,by rw [show w+1+s.1.length+j=w+1+(s.1.length+j) by omega];exact h2⟩
    have hEb:=ihb (p+1) 0 (b.roots (p+1)) ([],[]) p (κ+1) hp.below rfl (by rw [Tr.F.roots_len];omega) Td.ok_nil (by simp;omega) (by rw [Tr.F.roots_len];omega) rfl (by simp) (fun j hj=>by
      simp only [List.length_nil,Nat.zero_add] at hj
      obtain ⟨h1,h2⟩:=hDb (j+1) (by omega)
      rw [td_rdc,show (1:Int)=0+1 by omega,Td.depths_succ] at h2
      refine ⟨by omega,?_⟩
      rw [show p+1+j=p+(j+1) by omega,h2]
      simp only [List.map_nil,List.nil_append]
      have hjl:j<(b.depths 0).length:=by rw [Tr.F.depths_len];exact hj
      rw [Tr.rd_getElem (by rw [List.length_map];exact hjl),Tr.rd_getElem hjl,List.getElem_map]
      omega) (fun j hj=>by omega) (fun h=>by omega) (fun _=>rfl)
    have hf:Ev (fun k=>spec_l08Tidy.f k d D (p:Int)) (Td.rt (Td.pl b ([],[])).2 :: (Td.pl b ([],[])).1.map Prod.snd):=by
      refine Ev_succ ?_
      simp only [spec_l08Tidy.f]
      exact Ev.bind (ev_l01Children (by omega) hp) hEb
    have hcols:(Td.tre (Td.pl b ([],[]))).map Prod.snd=Td.rt (Td.pl b ([],[])).2 :: (Td.pl b ([],[])).1.map Prod.snd:=by simp [Td.tre,Function.comp_def]
    have hfst:=Td.tre_fst b
    have hokb:=Td.ok_pl b _ Td.ok_nil
    have hokn:=Td.ok_add hs hokb
    have hblen:=Td.pl_len b ([],[])
    simp only [List.length_nil,Nat.zero_add] at hblen
    have htl:(Td.tre (Td.pl b ([],[]))).length=b.size+1:=by simp [Td.tre,hblen]
    have hpA:=Td.pow_small (n:=s.1.length) (by omega)
    have hpB:=Td.pow_small (n:=(Td.pl b ([],[])).1.length) (by omega)
    have hQb:=Td.tre_in hokb
    have hmv:=Td.mv_in hs.1 hQb (by have:=Td.pow_ge s.1.length;omega) (by have:=Td.pow_ge (Td.pl b ([],[])).1.length;omega)
    have hQb':=hQb.mono (M':=1000000000000000) (by omega)
    have hP':=hs.1.mono (M':=100000000000000000) (by omega)
    have hmv':-1000000000000000≤Td.mv s.1 (Td.tre (Td.pl b ([],[])))∧Td.mv s.1 (Td.tre (Td.pl b ([],[])))≤1000000000000000:=by omega
    clear hmv hpA hpB hQb
    rw [← hfst] at hDb
    simp only [Td.pl]
    generalize hQe:Td.tre (Td.pl b ([],[]))=Q at *
    generalize hre:Td.rt (Td.pl b ([],[])).2=ρ at *
    have hshl:(Td.shf (Td.mv s.1 Q) Q).length=b.size+1:=by simp [Td.shf,htl]
    have hsnd:(s.1.map Prod.snd).length=s.1.length:=List.length_map ..
    have hEn:=ihn (p+1+b.size) (i+1) K (s.1++Td.shf (Td.mv s.1 Q) Q,s.2++[ρ+Td.mv s.1 Q]) w κ hp.next hKi.2 (by omega) hokn (by simp only [List.length_append,hshl];omega) hKl (by simp [hR]) (by simp only [List.length_append,hshl];omega) (fun j hj=>by
      simp only [List.length_append,hshl] at hj
      obtain ⟨h1,h2⟩:=hD j (by omega)
      refine ⟨h1,?_⟩
      rw [h2]
      simp only [List.map_append,Td.shf_fst,hfst]
      simp) (fun j hj=>by
      by_cases hji:j=i
      · subst hji
        refine ⟨s.1.length,by rw [hKr,hpw],by simp only [List.length_append,hshl];omega,?_⟩
        simp only [List.map_append,Td.shf_snd,hcols,List.map_cons]
        rw [show (s.1.length:Int)=((s.1.map Prod.snd).length:Int) by rw [hsnd],Tr.rd_app0,Tr.rd_cons0,← hR,Tr.rd_app0,Tr.rd_cons0]
      · obtain ⟨m,h1,h2,h3⟩:=hKm j (by omega)
        refine ⟨m,h1,by simp only [List.length_append];omega,?_⟩
        simp only [List.map_append]
        rw [Tr.rd_left _ _ _ (by omega) (by rw [hsnd];omega),Tr.rd_left _ _ _ (by omega) (by omega)]
        exact h3) (fun _=>by
      by_cases h0:i=0
      · have hs1:=hz h0
        have hs2:s.2=[]:=List.length_eq_zero_iff.mp (by omega)
        rw [hs1,hs2]
        simp only [List.map_append,Td.shf_snd,hcols,List.map_cons,List.map_nil,List.nil_append]
        rw [Tr.rd_cons0,Tr.rd_cons0]
      · have h1:=hK0 (by omega)
        obtain ⟨m,h2,h3,h4⟩:=hKm 0 (by omega)
        simp only [List.map_append]
        rw [Tr.rd_left _ _ _ (by omega) (by rw [hsnd];omega),Tr.rd_left _ _ _ (by omega) (by omega)]
        exact h1) (fun h=>by omega)
    have hl3:=ev_l08Tidy_l3 (D:=D) (d:=d) (K:=K) (v:=(w:Int)) (i:=(i:Int)) (b:=Td.mv s.1 Q) (Q.map Prod.snd) [] (0 :: s.1.map Prod.snd) (by simp only [List.nil_append,List.length_map];omega) (by simp only [List.length_cons,List.length_map];omega) (fun x hx=>by have:=hQb' x hx;omega) (by
      rw [Tr.wrap_succ (by omega)]
      simp only [List.map_append,Td.shf_snd] at hEn
      exact hEn)
    simp only [List.nil_append,List.length_nil] at hl3
    have hl1:=ev_l08Tidy_l1 (D:=D) (d:=d) (x7:=0 :: s.1.map Prod.snd) (K:=K) (v:=(w:Int)) (i:=(i:Int)) (P:=s.1) (Q:=Q) (w:=w) (c:=p) (κ:=κ) rfl (by omega) hKr (by omega) (by omega) (by omega) rfl (by omega) (fun a ha=>by
      obtain ⟨h1,h2⟩:=hD a (by omega)
      rw [Tr.rd_left _ _ _ (by omega) (by omega)] at h2
      exact ⟨h1,h2⟩) (fun a ha=>hDb a (by omega)) hP' (hQb'.mono (by omega)) (by omega) s.1 [] none rfl hl3
    refine Ev_succ ?_
    simp only [spec_l08Tidy.l0]
    refine evpos (by omega) (evpos (by omega) ?_)
    rw [hKr]
    refine Ev.bind hf ?_
    rw [← hcols]
    exact hl1
def mnl:Int→List Int→Int
  | a,[]=>a
  | a,x :: xs=>mnl (mn a x) xs
theorem mnl_le:∀ (l:List Int) (a:Int),mnl a l≤a:=by
  intro l
  induction l with
  | nil=>intro a;exact Int.le_refl _
  | cons x l ih =>
    intro a
    rw [mnl]
    have h1:=ih (mn a x)
    have h2:mn a x≤a:=by
      rw [td_mn]
      omega
    omega
theorem mnl_in:∀ (l:List Int) (a M:Int),(-M≤a∧a≤M)→Td.Bd M l→-M≤mnl a l∧mnl a l≤M:=by
  intro l
  induction l with
  | nil=>intro a M h _;exact h
  | cons x l ih =>
    intro a M h hb
    rw [mnl]
    have hx:=hb x (by simp)
    exact ih _ M (by rw [td_mn];omega) (fun y hy=>hb y (List.mem_cons_of_mem _ hy))
theorem ev_slices_Min_l0:∀ (S Pre:List Int) (a:Int),(Pre++S).length≤1000→Ev (fun k=>slices_Min_int64_int64.l0 k (Pre++S) a (Pre.length:Int)) (mnl a S):=by
  intro S
  induction S with
  | nil =>
    intro Pre a hl
    refine Ev_succ ?_
    simp only [slices_Min_int64_int64.l0]
    exact evneg (by simp) (Ev.now _)
  | cons x S ih =>
    intro Pre a hl
    have hl2:=hl
    rw [List.length_append,List.length_cons] at hl
    have e:rd (Pre++x :: S) (Pre.length:Int)=x:=by rw [Tr.rd_app0];exact Tr.rd_cons0 _ _
    have e4:wrap64 ((Pre.length:Int)+1)=((Pre++[x]).length:Int):=by rw [Tr.wrap_id (by omega) (by omega)];simp
    refine Ev_succ ?_
    simp only [slices_Min_int64_int64.l0]
    refine evpos (by rw [List.length_append,List.length_cons];omega) (evpos (by omega) ?_)
    rw [e,e4,mnl]
    have:=ih (Pre++[x]) (mn a x) (by simpa using hl2)
    simpa using this
theorem ev_tidy_l0 {b:Int}:∀ (S Pre:List Int) (N:Int),N=((Pre++S).length:Int)→N≤1000→(∀ x∈S,-1000000000000000000≤x - b∧x - b≤1000000000000000000)→Ev (fun k=>impl_tidy.l0 k (Pre++S) b N (Pre.length:Int)) (Pre++S.map (· - b)):=by
  intro S
  induction S with
  | nil =>
    intro Pre N hN hl hb
    refine Ev_succ ?_
    simp only [impl_tidy.l0]
    exact evneg (by simp at hN;omega) (evnow (by simp))
  | cons x S ih =>
    intro Pre N hN hl hb
    have hN2:=hN
    rw [List.length_append,List.length_cons] at hN
    have hbx:=hb x (by simp)
    have e:rd (Pre++x :: S) (Pre.length:Int)=x:=by rw [Tr.rd_app0];exact Tr.rd_cons0 _ _
    have e2:(Pre++x :: S).set ((Pre.length:Int)).toNat (x - b)=(Pre++[x - b])++S:=by simp
    have e3:wrap64 (x - b)=x - b:=Tr.wrap_id (by omega) (by omega)
    have e4:wrap64 ((Pre.length:Int)+1)=((Pre++[x - b]).length:Int):=by rw [Tr.wrap_id (by omega) (by omega)];simp
    refine Ev_succ ?_
    simp only [impl_tidy.l0]
    refine evpos (by omega) (evpos (by omega) (evpos (by rw [List.length_append,List.length_cons];omega) ?_))
    rw [e,e3,e2,e4]
    have:=ih (Pre++[x - b]) N (by simp only [List.length_append,List.length_cons,List.length_nil];omega) hl (fun y hy=>hb y (List.mem_cons_of_mem _ hy))
    simpa using this
theorem ev_tidy {d:List Int} {b:Tr.F} (hd:d.length≤24) (hp:Tr.Pl d 0 (.cons b .nil)):Ev (fun k=>impl_tidy.f k d) ((((Td.tre (Td.pl b ([],[]))).map Prod.snd)).map (· - mnl (Td.rt (Td.pl b ([],[])).2) ((Td.pl b ([],[])).1.map Prod.snd))):=by
  have hle:=hp.le
  simp only [Tr.F.size] at hle
  obtain ⟨lo,hi,hE⟩:=ev_draw hd hp
  have hcols:(Td.tre (Td.pl b ([],[]))).map Prod.snd=Td.rt (Td.pl b ([],[])).2 :: (Td.pl b ([],[])).1.map Prod.snd:=by simp [Td.tre,Function.comp_def]
  have hok:=Td.ok_pl b _ Td.ok_nil
  have hlen:=Td.pl_len b ([],[])
  simp only [List.length_nil,Nat.zero_add] at hlen
  have hpA:=Td.pow_small (n:=(Td.pl b ([],[])).1.length) (by omega)
  have hpg:=Td.pow_ge (Td.pl b ([],[])).1.length
  have hb:=Td.tre_in hok
  have hrt:=Td.rt_in hok.2.1 (by omega)
  have hmn:=mnl_in ((Td.pl b ([],[])).1.map Prod.snd) (Td.rt (Td.pl b ([],[])).2) _ hrt hok.1
  have hcl:((Td.tre (Td.pl b ([],[]))).map Prod.snd).length=b.size+1:=by rw [hcols];simp [hlen]
  unfold impl_tidy.f
  refine Ev.bind hE ?_
  dsimp only
  have hmin:Ev (fun k=>slices_Min_int64_int64.f k ((Td.tre (Td.pl b ([],[]))).map Prod.snd)) (mnl (Td.rt (Td.pl b ([],[])).2) ((Td.pl b ([],[])).1.map Prod.snd)):=by
    unfold slices_Min_int64_int64.f
    refine evneg (by omega) (evpos (by omega) ?_)
    rw [hcols,Tr.rd_cons0]
    have:=ev_slices_Min_l0 ((Td.pl b ([],[])).1.map Prod.snd) [Td.rt (Td.pl b ([],[])).2] (Td.rt (Td.pl b ([],[])).2) (by simp [hlen];omega)
    exact this
  refine Ev.bind hmin ?_
  have:=ev_tidy_l0 (b:=mnl (Td.rt (Td.pl b ([],[])).2) ((Td.pl b ([],[])).1.map Prod.snd)) ((Td.tre (Td.pl b ([],[]))).map Prod.snd) [] _ rfl (by rw [List.nil_append];omega) (fun x hx=>by have:=hb x hx;omega)
  exact this
theorem ev_l08Columns_l1 {b:Int}:∀ (S Pre:List Int),(Pre++S).length≤1000→(∀ x∈S,-1000000000000000000≤x - b∧x - b≤1000000000000000000)→Ev (fun k=>spec_l08Columns.l1 k (Pre++S) b (Pre.length:Int)) (Pre++S.map (· - b)):=by
  intro S
  induction S with
  | nil =>
    intro Pre hl hb
    refine Ev_succ ?_
    simp only [spec_l08Columns.l1]
    exact evneg (by simp) (evnow (by simp))
  | cons x S ih =>
    intro Pre hl hb
    have hl2:=hl
    rw [List.length_append,List.length_cons] at hl
    have hbx:=hb x (by simp)
    have e:rd (Pre++x :: S) (Pre.length:Int)=x:=by rw [Tr.rd_app0];exact Tr.rd_cons0 _ _
    have e2:(Pre++x :: S).set ((Pre.length:Int)).toNat (x - b)=(Pre++[x - b])++S:=by simp
    have e3:wrap64 (x - b)=x - b:=Tr.wrap_id (by omega) (by omega)
    have e4:wrap64 ((Pre.length:Int)+1)=((Pre++[x - b]).length:Int):=by rw [Tr.wrap_id (by omega) (by omega)];simp
    refine Ev_succ ?_
    simp only [spec_l08Columns.l1]
    refine evpos (by rw [List.length_append,List.length_cons];omega) (evpos (by omega) ?_)
    rw [e,e3,e2,e4]
    have:=ih (Pre++[x - b]) (by simp only [List.length_append,List.length_cons,List.length_nil];omega) (fun y hy=>hb y (List.mem_cons_of_mem _ hy))
    simpa using this
theorem ev_l08Columns_l0 {r:List Int} {C:List Int} (hC:C.length≤1000):∀ (S Pre:List Int) (a:Int),C=Pre++S→Ev (fun k=>spec_l08Columns.l1 k C (mnl a S) 0) r→Ev (fun k=>spec_l08Columns.l0 k C a (Pre.length:Int)) r:=by
  intro S
  induction S with
  | nil =>
    intro Pre a hS hr
    rw [List.append_nil] at hS
    subst hS
    refine Ev_succ ?_
    simp only [spec_l08Columns.l0]
    exact evneg (by omega) hr
  | cons x S ih =>
    intro Pre a hS hr
    have hlen:C.length=Pre.length+(S.length+1):=by rw [hS];simp
    have e:rd C (Pre.length:Int)=x:=by rw [hS,Tr.rd_app0];exact Tr.rd_cons0 _ _
    have e4:wrap64 ((Pre.length:Int)+1)=((Pre++[x]).length:Int):=by rw [Tr.wrap_id (by omega) (by omega)];simp
    refine Ev_succ ?_
    simp only [spec_l08Columns.l0]
    refine evpos (by omega) (evpos (by omega) ?_)
    rw [e,e4]
    exact ih (Pre++[x]) (mn a x) (by rw [hS];simp) hr
theorem td_dep:∀ (g:Tr.F) (p:Nat) (k:Int) (c:Nat),p≤c→c<p+g.size→g.dep p k c=rd (g.depths k) ((c - p:Nat):Int):=by
  intro g
  induction g with
  | nil=>intro p k c h1 h2;simp [Tr.F.size] at h2;omega
  | cons b n hb hn =>
    intro p k c h1 h2
    simp only [Tr.F.size] at h2
    rw [Tr.F.dep,Tr.F.depths]
    by_cases e:c=p
    · rw [if_pos e,e,Nat.sub_self];exact (Tr.rd_cons0 _ _).symm
    · rw [if_neg e]
      have hc:c - p=(c - p - 1)+1:=by omega
      rw [hc,td_rdc]
      by_cases h3:c<p+1+b.size
      · rw [if_pos h3,hb _ _ _ (by omega) h3,Tr.rd_left _ _ _ (by omega) (by rw [Tr.F.depths_len];omega),show c - (p+1)=c - p - 1 by omega]
      · rw [if_neg h3,hn _ _ _ (by omega) (by omega),show ((c - p - 1:Nat):Int)=(((b.depths (k+1)).length+(c - (p+1+b.size)):Nat):Int) by rw [Tr.F.depths_len];omega,Tr.rd_app]
theorem ev_l08Columns {d:List Int} {t b:Tr.F} (h:Tr.Tree d t) (ht:t=.cons b .nil):Ev (fun k=>spec_l08Columns.f k d) ((((Td.tre (Td.pl b ([],[]))).map Prod.snd)).map (· - mnl (Td.rt (Td.pl b ([],[])).2) ((Td.pl b ([],[])).1.map Prod.snd))):=by
  have hd:=h.le
  have hlen2:=h.len
  have hp:=h.pl
  rw [ht] at hp
  have hsz:t.size=b.size+1:=by rw [ht];simp only [Tr.F.size];omega
  have hbl:=Tr.F.len_le b
  have hcols:(Td.tre (Td.pl b ([],[]))).map Prod.snd=Td.rt (Td.pl b ([],[])).2 :: (Td.pl b ([],[])).1.map Prod.snd:=by simp [Td.tre,Function.comp_def]
  have hok:=Td.ok_pl b _ Td.ok_nil
  have hlen:=Td.pl_len b ([],[])
  simp only [List.length_nil,Nat.zero_add] at hlen
  have hpA:=Td.pow_small (n:=(Td.pl b ([],[])).1.length) (by omega)
  have hpg:=Td.pow_ge (Td.pl b ([],[])).1.length
  have hb:=Td.tre_in hok
  have hrt:=Td.rt_in hok.2.1 (by omega)
  have hmn:=mnl_in ((Td.pl b ([],[])).1.map Prod.snd) (Td.rt (Td.pl b ([],[])).2) _ hrt hok.1
  have hcl:((Td.tre (Td.pl b ([],[]))).map Prod.snd).length=b.size+1:=by rw [hcols];simp [hlen]
  unfold spec_l08Columns.f
  refine Ev.bind (ev_l01Depths h) ?_
  have hE:=ev_l08Tidy_l0 (d:=d) (D:=Tr.depthsL t) (by omega) b 1 0 (b.roots 1) ([],[]) 0 1 hp.below rfl (by rw [Tr.F.roots_len];omega) Td.ok_nil (by simp;omega) (by rw [Tr.F.roots_len];omega) rfl (by simp) (fun j hj=>by
    simp only [List.length_nil,Nat.zero_add] at hj
    have hl:(Tr.depthsL t).length=t.size:=Tr.each_len _ _
    refine ⟨by omega,?_⟩
    have h1:rd (Tr.depthsL t) ((0+1+j:Nat):Int)=t.dep 0 0 (0+1+j):=Tr.each_rd (by omega)
    rw [h1,td_dep t 0 0 _ (by omega) (by omega),ht,Tr.F.depths,show 0+1+j - 0=j+1 by omega,td_rdc,Tr.rd_left _ _ _ (by omega) (by rw [Tr.F.depths_len];omega),Td.depths_succ]
    simp only [List.map_nil,List.nil_append]
    have hjl:j<(b.depths 0).length:=by rw [Tr.F.depths_len];exact hj
    rw [Tr.rd_getElem (by rw [List.length_map];exact hjl),Tr.rd_getElem hjl,List.getElem_map]
    omega) (fun j hj=>by omega) (fun h=>by omega) (fun _=>rfl)
  have hf:Ev (fun k=>spec_l08Tidy.f k d (Tr.depthsL t) 0) ((Td.tre (Td.pl b ([],[]))).map Prod.snd):=by
    refine Ev_succ ?_
    simp only [spec_l08Tidy.f]
    rw [hcols]
    exact Ev.bind (ev_l01Children (by omega) hp) hE
  refine Ev.bind hf (evpos (by omega) ?_)
  have hr0:rd ((Td.tre (Td.pl b ([],[]))).map Prod.snd) 0=Td.rt (Td.pl b ([],[])).2:=by rw [hcols,Tr.rd_cons0]
  rw [hr0]
  refine ev_l08Columns_l0 (C:=(Td.tre (Td.pl b ([],[]))).map Prod.snd) (by omega) ((Td.tre (Td.pl b ([],[]))).map Prod.snd) [] _ rfl ?_
  have hm:mnl (Td.rt (Td.pl b ([],[])).2) ((Td.tre (Td.pl b ([],[]))).map Prod.snd)=mnl (Td.rt (Td.pl b ([],[])).2) ((Td.pl b ([],[])).1.map Prod.snd):=by
    rw [hcols,mnl]
    congr 1
    rw [td_mn];omega
  rw [hm]
  exact ev_l08Columns_l1 ((Td.tre (Td.pl b ([],[]))).map Prod.snd) [] (by rw [List.nil_append];omega) (fun x hx=>by have:=hb x hx;omega)
def mxl:Int→List Int→Int
  | a,[]=>a
  | a,x :: xs=>mxl (mx a x) xs
theorem ev_tw_Max_l0:∀ (S Pre:List Int) (a:Int),(Pre++S).length≤1000→Ev (fun k=>slices_Max_int64_int64.l0 k (Pre++S) a (Pre.length:Int)) (mxl a S):=by
  intro S
  induction S with
  | nil =>
    intro Pre a hl
    refine Ev_succ ?_
    simp only [slices_Max_int64_int64.l0]
    exact evneg (by simp) (Ev.now _)
  | cons x S ih =>
    intro Pre a hl
    have hl2:=hl
    rw [List.length_append,List.length_cons] at hl
    have e:rd (Pre++x :: S) (Pre.length:Int)=x:=by rw [Tr.rd_app0];exact Tr.rd_cons0 _ _
    have e4:wrap64 ((Pre.length:Int)+1)=((Pre++[x]).length:Int):=by rw [Tr.wrap_id (by omega) (by omega)];simp
    refine Ev_succ ?_
    simp only [slices_Max_int64_int64.l0]
    refine evpos (by rw [List.length_append,List.length_cons];omega) (evpos (by omega) ?_)
    rw [e,e4,mxl]
    have:=ih (Pre++[x]) (mx a x) (by simpa using hl2)
    simpa using this
theorem ev_TidyWidth_l0:∀ (S Pre:List Int) (a:Int),(Pre++S).length≤1000→Ev (fun k=>spec_TidyWidth.l0 k (Pre++S) a (Pre.length:Int)) (mxl a S,0):=by
  intro S
  induction S with
  | nil =>
    intro Pre a hl
    refine Ev_succ ?_
    simp only [spec_TidyWidth.l0]
    exact evneg (by simp) (Ev.now _)
  | cons x S ih =>
    intro Pre a hl
    have hl2:=hl
    rw [List.length_append,List.length_cons] at hl
    have e:rd (Pre++x :: S) (Pre.length:Int)=x:=by rw [Tr.rd_app0];exact Tr.rd_cons0 _ _
    have e4:wrap64 ((Pre.length:Int)+1)=((Pre++[x]).length:Int):=by rw [Tr.wrap_id (by omega) (by omega)];simp
    refine Ev_succ ?_
    simp only [spec_TidyWidth.l0]
    refine evpos (by rw [List.length_append,List.length_cons];omega) (evpos (by omega) ?_)
    rw [e,e4,mxl]
    have:=ih (Pre++[x]) (mx a x) (by simpa using hl2)
    simpa using this
theorem ev_TidyWidth (d:List Int):∃ r:Int × Int,Ev (fun k=>spec_TidyWidth.f k d) r∧Ev (fun k=>impl_TidyWidth.f k d) r:=by
  rcases Tr.isT_cases d with h|⟨t,h⟩
  · refine ⟨(0,1),?_,?_⟩
    · unfold spec_TidyWidth.f;exact Ev.bind (ev_l01Is d) (evneg (by simp [h]) (Ev.now _))
    · unfold impl_TidyWidth.f;exact Ev.bind (ev_IsTree d) (evneg (by simp [h]) (Ev.now _))
  · have hle:=h.le
    obtain ⟨b,ht⟩:=h.one
    have hp:=h.pl
    rw [ht] at hp
    have hple:=hp.le
    simp only [Tr.F.size] at hple
    have hlen:=Td.pl_len b ([],[])
    simp only [List.length_nil,Nat.zero_add] at hlen
    have hc:=ev_l08Columns h ht
    have hi_:=ev_tidy hle hp
    have hcols:(Td.tre (Td.pl b ([],[]))).map Prod.snd=Td.rt (Td.pl b ([],[])).2 :: (Td.pl b ([],[])).1.map Prod.snd:=by simp [Td.tre,Function.comp_def]
    have hm:=mnl_le ((Td.pl b ([],[])).1.map Prod.snd) (Td.rt (Td.pl b ([],[])).2)
    have hl2:((Td.pl b ([],[])).1.map Prod.snd).length≤24:=by rw [List.length_map];omega
    rw [hcols,List.map_cons] at hc hi_
    generalize mnl (Td.rt (Td.pl b ([],[])).2) ((Td.pl b ([],[])).1.map Prod.snd)=low at hc hi_ hm
    generalize hr:((Td.pl b ([],[])).1.map Prod.snd).map (· - low)=R at hc hi_
    have hRl:R.length≤24:=by rw [← hr,List.length_map];exact hl2
    have hx0:0≤Td.rt (Td.pl b ([],[])).2 - low:=by omega
    generalize Td.rt (Td.pl b ([],[])).2 - low=x0 at hc hi_ hx0
    refine ⟨(mxl x0 R,0),?_,?_⟩
    · unfold spec_TidyWidth.f
      refine Ev.bind (ev_l01Is d) (evpos h.isT (Ev.bind hc ?_))
      have:=ev_TidyWidth_l0 (x0 :: R) [] 0 (by simp;omega)
      rw [mxl,show mx 0 x0=x0 by rw [td_mx];omega] at this
      exact this
    · unfold impl_TidyWidth.f
      refine Ev.bind (ev_IsTree d) (evpos h.isT (Ev.bind hi_ (Ev.bind (a:=mxl x0 R) ?_ (Ev.now _))))
      unfold slices_Max_int64_int64.f
      refine evneg (by simp only [List.length_cons];omega) (evpos (by simp only [List.length_cons];omega) ?_)
      rw [Tr.rd_cons0]
      exact ev_tw_Max_l0 R [x0] x0 (by simp;omega)
def Cod (C:List Int):Prop:=C.length≤1000000∧∀ x∈C,0≤x∧x≤255
theorem cod_rd {C:List Int} (h:Cod C) (i:Int):0≤rd C i∧rd C i≤255:=by
  unfold rd
  rw [List.getD_eq_getElem?_getD]
  cases hl:C[i.toNat]? with
  | none=>simp
  | some x=>simpa using h.2 x (List.mem_of_getElem? hl)
theorem next_ok {C:List Int} (hC:Cod C) {a h:Int} (ha:0≤a∧a≤(C.length:Int)) (n:Int):∃ r a' h',spec_l01Next.f C a h n=some (r,a',h')∧0≤r∧(r<n∨r=0)∧(0≤a'∧a'≤(C.length:Int)):=by
  have hl:=hC.1
  have hr:=cod_rd hC a
  have hh:=Dr.hash_in (IntKind.u64.wrap (h*6364136223846793005)+1442695040888963407)
  unfold spec_l01Next.f
  generalize Go.bits .and .u64 (IntKind.u64.wrap (IntKind.u64.wrap (h*6364136223846793005)+1442695040888963407) / 8589934592) 16777215=X at hh ⊢
  have eX:wrap64 X=X:=Tr.wrap_id (by omega) (by omega)
  rw [eX]
  by_cases h1:n<1
  · rw [if_pos h1];exact ⟨0,a,h,rfl,by omega,.inr rfl,ha⟩
  · rw [if_neg h1]
    by_cases h2:a<(C.length:Int)
    · rw [if_pos h2,if_pos ha.1,if_neg (by omega)]
      have e1:wrap64 (rd C a)=rd C a:=Tr.wrap_id (by omega) (by omega)
      have e2:wrap64 (a+1)=a+1:=Tr.wrap_id (by omega) (by omega)
      rw [e1,e2]
      clear e1 e2 eX
      rw [Tr.wrap_id (x:=X+rd C a) (by omega) (by omega)]
      have ht:=Dr.tmod_in (a:=X+rd C a) (b:=n) (by omega) (by omega)
      exact ⟨_,_,_,rfl,ht.1,.inl ht.2,by omega,by omega⟩
    · rw [if_neg h2,if_neg (by omega)]
      have ht:=Dr.tmod_in (a:=X) (b:=n) (by omega) (by omega)
      exact ⟨_,_,_,rfl,ht.1,.inl ht.2,ha⟩
theorem pick_ok {C:List Int} (hC:Cod C) {a h:Int} (ha:0≤a∧a≤(C.length:Int)) (l:List Int) (hl:1≤l.length):∃ r a' h',spec_l01Pick.f C a h l=some (r,a',h')∧r∈l∧(0≤a'∧a'≤(C.length:Int)):=by
  obtain ⟨r,a',h',h1,h2,h3,h4⟩:=next_ok hC (h:=h) ha (l.length:Int)
  unfold spec_l01Pick.f
  rw [h1,Option.bind_some]
  dsimp only
  rw [if_pos h2,if_pos (by omega)]
  exact ⟨_,_,_,rfl,Tr.rd_mem h2 (by omega),h4⟩
theorem evat {α β:Type} {g:Option α} {a:α} {f:Nat→α→Option β} {r:β} (e:g=some a) (h:Ev (fun n=>f n a) r):Ev (fun n=>g.bind (f n)) r:=by subst e;exact h
theorem ev_l01DrawOf_l1 {C:List Int} (hC:Cod C) {n:Int} {X:(List Int × Int × Int)→Prop} (deg way:List Int) (deep v:Int) (hd:deg.length≤1000) (hw:way.length≤1000) (hw1:1≤way.length) (hway:∀ x∈way,0≤x∧x<(deg.length:Int))
    (hfin:∀ (deg' way':List Int) (a h:Int),deg'.length=deg.length+1→1≤way'.length→way'.length≤way.length+1→(∀ x∈way',(0≤x∧x<(deg.length:Int))∨x=v)→(0≤a∧a≤(C.length:Int))→∃ r,X r∧Ev (fun k=>spec_l01DrawOf.l0 k n deg' way' deep (wrap64 (v+1)) C a h) r):∀ (m:Nat) (a h:Int),m<way.length→(0≤a∧a≤(C.length:Int)) →
    ∃ r,X r∧Ev (fun k=>spec_l01DrawOf.l1 k n deg way deep v (m:Int) C a h) r:=by
  have hput:∀ (m:Nat) (a h:Int),m<way.length→(0≤a∧a≤(C.length:Int))→∃ r,X r∧Ev (fun k=>(if 0≤(m:Int) then (if (m:Int)<(way.length:Int) then (if 0≤(rd way (m:Int)) then (if (rd way (m:Int))<(deg.length:Int) then ((some (deg.set ((rd way (m:Int)):Int).toNat (wrap64 ((rd deg (rd way (m:Int)))+1)):List Int)).bind fun y163=>(if 0≤(wrap64 ((m:Int)+1)) then (if (wrap64 ((m:Int)+1))≤(way.length:Int) then ((spec_l01Own.f (way.take ((wrap64 ((m:Int)+1)):Int).toNat)).bind fun t168=>(if t168.length<17592186044416 then (if y163.length<17592186044416 then (spec_l01DrawOf.l0 k n (y163++[0]) (t168++[v]) deep (wrap64 (v+1)) C a h) else (none)) else (none))) else (none)) else (none))) else (none)) else (none)) else (none)) else (none))) r:=by
    intro m a h hm ha
    have hx:=hway (rd way (m:Int)) (Tr.rd_mem (by omega) (by omega))
    obtain ⟨r,h1,h2⟩:=hfin (deg.set (rd way (m:Int)).toNat (wrap64 (rd deg (rd way (m:Int))+1))++[0]) (way.take (m+1)++[v]) a h (by simp) (by simp) (by simp;omega) (fun x hx=>by
      rcases List.mem_append.mp hx with hx|hx
      · exact .inl (hway x (List.mem_of_mem_take hx))
      · exact .inr (by simpa using hx)) ha
    refine ⟨r,h1,?_⟩
    rw [Tr.wrap_succ (by omega),Int.toNat_natCast]
    have ho:spec_l01Own.f (way.take (m+1))=some (way.take (m+1)):=by
      unfold spec_l01Own.f
      rw [Option.bind_some,if_pos (by rw [List.length_nil,List.length_take];omega)];rfl
    rw [ho]
    exact evpos (by omega) (evpos (by omega) (evpos hx.1 (evpos hx.2 (evsome (evpos (by omega) (evpos (by omega) (evsome (evpos (by rw [List.length_take];omega) (evpos (by rw [List.length_set];omega) h2)))))))))
  intro m
  induction m with
  | zero =>
    intro a h hm ha
    obtain ⟨r,h1,h2⟩:=hput 0 a h hm ha
    refine ⟨r,h1,Ev_succ ?_⟩
    simp only [spec_l01DrawOf.l1]
    exact evneg (by omega) h2
  | succ m ih =>
    intro a h hm ha
    obtain ⟨q,a',h',e1,_,_,h2⟩:=next_ok hC (h:=h) ha deep
    by_cases hq:q=0
    · obtain ⟨r,h3,h4⟩:=ih a' h' (by omega) h2
      refine ⟨r,h3,Ev_succ ?_⟩
      simp only [spec_l01DrawOf.l1]
      refine evpos (by omega) (evat e1 (evpos hq ?_))
      rw [show wrap64 (((m+1:Nat):Int) - 1)=(m:Int) by rw [Tr.wrap_id (by omega) (by omega)];omega]
      exact h4
    · obtain ⟨r,h3,h4⟩:=hput (m+1) a' h' hm h2
      refine ⟨r,h3,Ev_succ ?_⟩
      simp only [spec_l01DrawOf.l1]
      exact evpos (by omega) (evat e1 (evneg hq h4))
theorem ev_l01DrawOf_l0 {C:List Int} (hC:Cod C) {n:Nat} (hn:n≤100) {deep:Int}:∀ (m v:Nat) (deg way:List Int) (a h:Int),v+m=max n 1→deg.length=v→1≤v→1≤way.length→way.length≤v→(∀ x∈way,0≤x∧x<(v:Int))→(0≤a∧a≤(C.length:Int)) →
    ∃ r,(r.1.length=max n 1∧(0≤r.2.1∧r.2.1≤(C.length:Int)))∧Ev (fun k=>spec_l01DrawOf.l0 k (n:Int) deg way deep (v:Int) C a h) r:=by
  intro m
  induction m with
  | zero =>
    intro v deg way a h hv hd h1 hw1 hw hway ha
    refine ⟨(deg,a,h),⟨by simp only;omega,ha⟩,Ev_succ ?_⟩
    simp only [spec_l01DrawOf.l0]
    exact evneg (by omega) (Ev.now _)
  | succ m ih =>
    intro v deg way a h hv hd h1 hw1 hw hway ha
    obtain ⟨r,h2,h3⟩:=ev_l01DrawOf_l1 hC (n:=(n:Int)) (X:=fun r=>r.1.length=max n 1∧(0≤r.2.1∧r.2.1≤(C.length:Int))) deg way deep (v:Int) (by omega) (by omega) hw1 (by rw [hd];exact hway) (fun deg' way' a' h' l1 l2 l3 l4 l5=>by
      rw [Tr.wrap_succ (by omega)]
      exact ih (v+1) deg' way' a' h' (by omega) (by omega) (by omega) l2 (by omega) (fun x hx=>by rcases l4 x hx with q|q <;> omega) l5) (way.length - 1) a h (by omega) ha
    refine ⟨r,h2,Ev_succ ?_⟩
    simp only [spec_l01DrawOf.l0]
    refine evpos (by omega) ?_
    rw [show wrap64 ((way.length:Int) - 1)=((way.length - 1:Nat):Int) by rw [Tr.wrap_id (by omega) (by omega)];omega]
    exact h3
theorem ev_l01DrawOf {C:List Int} (hC:Cod C) {a h:Int} (ha:0≤a∧a≤(C.length:Int)) (n:Nat) (hn:n≤100):∃ r,(r.1.length=max n 1∧(0≤r.2.1∧r.2.1≤(C.length:Int)))∧Ev (fun k=>spec_l01DrawOf.f k C a h (n:Int)) r:=by
  obtain ⟨d,a',h',e1,_,h2⟩:=pick_ok hC (h:=h) ha [1,2,4,30] (by simp)
  obtain ⟨r,h3,h4⟩:=ev_l01DrawOf_l0 hC hn (deep:=d) (max n 1 - 1) 1 [0] [0] a' h' (by omega) rfl (by omega) (by simp) (by simp) (by simp) h2
  refine ⟨r,h3,?_⟩
  unfold spec_l01DrawOf.f
  rw [e1]
  exact evsome h4
theorem ev_l01Small {C:List Int} (hC:Cod C) {a h:Int} (ha:0≤a∧a≤(C.length:Int)):∃ r,((1≤r.1.length∧r.1.length≤24)∧(0≤r.2.1∧r.2.1≤(C.length:Int)))∧Ev (fun k=>spec_l01Small.f k C a h) r:=by
  obtain ⟨n,a1,h1,e1,n0,n1,s1⟩:=next_ok hC (h:=h) ha 6
  obtain ⟨m,hm⟩:=Int.eq_ofNat_of_zero_le n0
  obtain ⟨r,⟨l,s2⟩,h2⟩:=ev_l01DrawOf hC (h:=h1) s1 (m+1) (by omega)
  refine ⟨r,⟨by omega,s2⟩,?_⟩
  unfold spec_l01Small.f
  refine evat e1 ?_
  dsimp only
  rw [show wrap64 (1+n)=((m+1:Nat):Int) by rw [Tr.wrap_id (by omega) (by omega)];omega]
  exact Ev.bind h2 (Ev.now _)
theorem ev_l01Join_l0 (L:List S28) (hL:L.length≤1000) (hs:∀ x∈L,x.f0.length≤1000):∀ (S Pre:List S28) (acc:List Int),L=Pre++S→1≤acc.length→acc.length≤24→∃ r,(r.2=true→1≤r.1.length∧r.1.length≤24)∧Ev (fun k=>spec_l01Join.l0 k L acc (Pre.length:Int)) r:=by
  intro S
  induction S with
  | nil =>
    intro Pre acc hS h1 h2
    rw [List.append_nil] at hS
    subst hS
    refine ⟨(acc,true),fun _=>⟨h1,h2⟩,Ev_succ ?_⟩
    simp only [spec_l01Join.l0]
    exact evneg (by omega) (Ev.now _)
  | cons x S ih =>
    intro Pre acc hS h1 h2
    have hlen:L.length=Pre.length+(S.length+1):=by rw [hS];simp
    have hx:=hs x (by rw [hS];simp)
    have e:rd_T28 L (Pre.length:Int)=x:=by
      unfold rd_T28
      first
        | (rw [hS,List.getD_eq_getElem?_getD,Int.toNat_natCast,List.getElem?_append_right (Nat.le_refl _),Nat.sub_self];rfl)
        | (unfold rdOf;rw [hS,List.getD_eq_getElem?_getD,Int.toNat_natCast,List.getElem?_append_right (Nat.le_refl _),Nat.sub_self];rfl)
    by_cases h3:((acc++x.f0).length:Int)>24
    · refine ⟨([],false),fun h=>(by cases h),Ev_succ ?_⟩
      simp only [spec_l01Join.l0,e]
      exact evpos (by omega) (evpos (by omega) (evpos (by omega) (evsome (evpos h3 (Ev.now _)))))
    · obtain ⟨r,h4,h5⟩:=ih (Pre++[x]) (acc++x.f0) (by rw [hS];simp) (by rw [List.length_append];omega) (by omega)
      refine ⟨r,h4,Ev_succ ?_⟩
      simp only [spec_l01Join.l0,e]
      rw [show wrap64 ((Pre.length:Int)+1)=((Pre++[x]).length:Int) by rw [Tr.wrap_id (by omega) (by omega)];simp]
      exact evpos (by omega) (evpos (by omega) (evpos (by omega) (evsome (evneg h3 h5))))
theorem ev_l01Join (L:List S28) (hL:L.length≤1000) (hs:∀ x∈L,x.f0.length≤1000):∃ r,(r.2=true→1≤r.1.length∧r.1.length≤24)∧Ev (fun k=>spec_l01Join.f k L) r:=by
  unfold spec_l01Join.f
  exact ev_l01Join_l0 L hL hs L [] _ rfl (by simp) (by simp)
theorem ev_l01Draw_rest {C:List Int} (hC:Cod C) {a h:Int} (ha:0≤a∧a≤(C.length:Int)):∃ r,((1≤r.1.length∧r.1.length≤24)∧(0≤r.2.1∧r.2.1≤(C.length:Int)))∧Ev (fun k=>((spec_l01Pick.f C a h (([8,12,24]:List Int))).bind fun bt259=>((spec_l01Next.f C bt259.2.1 bt259.2.2 bt259.1).bind fun bt262=>((spec_l01DrawOf.f k C bt262.2.1 bt262.2.2 (wrap64 (1+bt262.1))).bind fun bt265=>(some (bt265.1,bt265.2.1,bt265.2.2)))))) r:=by
  obtain ⟨n,a1,h1,e1,n1,s1⟩:=pick_ok hC (h:=h) ha [8,12,24] (by simp)
  obtain ⟨q,a2,h2,e2,q0,q1,s2⟩:=next_ok hC (h:=h1) s1 n
  have hn:8≤n∧n≤24:=by
    simp only [List.mem_cons,List.mem_nil_iff,or_false] at n1
    omega
  obtain ⟨m,hm⟩:=Int.eq_ofNat_of_zero_le q0
  obtain ⟨r,⟨l,s3⟩,h3⟩:=ev_l01DrawOf hC (h:=h2) s2 (m+1) (by omega)
  refine ⟨r,⟨by omega,s3⟩,evat e1 (evat e2 ?_)⟩
  dsimp only
  rw [show wrap64 (1+q)=((m+1:Nat):Int) by rw [Tr.wrap_id (by omega) (by omega)];omega]
  exact Ev.bind h3 (Ev.now _)
theorem ev_l01Draw_l0 {C u:List Int} (hC:Cod C) (hu:u.length≤1000):∀ (m:Nat) (L:List S28) (a h:Int),L.length+m≤100→(∀ x∈L,x.f0.length≤1000)→(0≤a∧a≤(C.length:Int))→∃ r,((1≤r.1.length∧r.1.length≤24)∧(0≤r.2.1∧r.2.1≤(C.length:Int)))∧Ev (fun k=>spec_l01Draw.l0 k L (m:Int) C a h u) r:=by
  intro m
  induction m with
  | zero =>
    intro L a h hL hs ha
    obtain ⟨j,hj1,hj2⟩:=ev_l01Join L (by omega) hs
    by_cases hj:j.2=true
    · refine ⟨(j.1,a,h),⟨hj1 hj,ha⟩,Ev_succ ?_⟩
      simp only [spec_l01Draw.l0]
      exact evneg (by omega) (Ev.bind hj2 (evpos hj (Ev.now _)))
    · obtain ⟨r,h1,h2⟩:=ev_l01Draw_rest hC (h:=h) ha
      refine ⟨r,h1,Ev_succ ?_⟩
      simp only [spec_l01Draw.l0]
      exact evneg (by omega) (Ev.bind hj2 (evneg hj h2))
  | succ m ih =>
    intro L a h hL hs ha
    obtain ⟨r,h1,h2⟩:=ih (L++[⟨u⟩]) a h (by simp;omega) (fun x hx=>by
      rcases List.mem_append.mp hx with hx|hx
      · exact hs x hx
      · rw [List.mem_singleton] at hx;subst hx;exact hu) ha
    refine ⟨r,h1,Ev_succ ?_⟩
    simp only [spec_l01Draw.l0]
    rw [show wrap64 (((m+1:Nat):Int) - 1)=(m:Int) by rw [Tr.wrap_id (by omega) (by omega)];omega]
    exact evpos (by omega) (evpos (by omega) h2)
theorem ev_l01Draw {C:List Int} (hC:Cod C) {a h:Int} (ha:0≤a∧a≤(C.length:Int)):∃ r,((1≤r.1.length∧r.1.length≤24)∧(0≤r.2.1∧r.2.1≤(C.length:Int)))∧Ev (fun k=>spec_l01Draw.f k C a h) r:=by
  obtain ⟨n,a1,h1,e1,n0,n1,s1⟩:=next_ok hC (h:=h) ha 5
  unfold spec_l01Draw.f
  by_cases c0:n=0
  · obtain ⟨r,h2,h3⟩:=ev_l01Small hC (h:=h1) s1
    exact ⟨r,h2,evat e1 (evpos c0 (Ev.bind h3 (Ev.now _)))⟩
  by_cases c1:n=1
  · obtain ⟨q,a2,h2,e2,q0,q1,s2⟩:=next_ok hC (h:=h1) s1 5
    obtain ⟨m,hm⟩:=Int.eq_ofNat_of_zero_le q0
    obtain ⟨u,⟨l,s3⟩,h3⟩:=ev_l01DrawOf hC (h:=h2) s2 (m+1) (by omega)
    obtain ⟨p,a4,h4,e4,p0,p1,s4⟩:=next_ok hC (h:=u.2.2) s3 5
    obtain ⟨w,hw⟩:=Int.eq_ofNat_of_zero_le p0
    obtain ⟨r,h5,h6⟩:=ev_l01Draw_l0 hC (u:=u.1) (by omega) w [] a4 h4 (by simp;omega) (by simp) s4
    refine ⟨r,h5,evat e1 (evneg c0 (evpos c1 (evat e2 ?_)))⟩
    dsimp only
    rw [show wrap64 (1+q)=((m+1:Nat):Int) by rw [Tr.wrap_id (by omega) (by omega)];omega]
    refine Ev.bind h3 (evat e4 ?_)
    dsimp only
    rw [hw]
    exact h6
  · obtain ⟨r,h2,h3⟩:=ev_l01Draw_rest hC (h:=h1) s1
    exact ⟨r,h2,evat e1 (evneg c0 (evneg c1 h3))⟩
theorem ev_l01From_l0 {C:List Int} (hC:Cod C):∀ (m i:Nat) (h:Int),i+m=C.length→∃ h',Ev (fun k=>spec_l01From.l0 k C (i:Int) C 0 h) (C,0,h'):=by
  have hl:=hC.1
  intro m
  induction m with
  | zero =>
    intro i h hi
    refine ⟨h,Ev_succ ?_⟩
    simp only [spec_l01From.l0]
    exact evneg (by omega) (Ev.now _)
  | succ m ih =>
    intro i h hi
    by_cases c:(i:Int)<4096
    · obtain ⟨h',h2⟩:=ih (i+1) (IntKind.u64.wrap ((IntKind.u64.wrap ((IntKind.u64.wrap (h*1099511628211))+(IntKind.u64.wrap (rd C (i:Int)))))+233)) (by omega)
      refine ⟨h',Ev_succ ?_⟩
      simp only [spec_l01From.l0]
      rw [Tr.wrap_succ (by omega)]
      exact evpos (by omega) (evpos c (evpos (by omega) h2))
    · refine ⟨h,Ev_succ ?_⟩
      simp only [spec_l01From.l0]
      exact evpos (by omega) (evneg c (Ev.now _))
theorem ev_l01From {C:List Int} (hC:Cod C):∃ h',Ev (fun k=>spec_l01From.f k C) (C,0,h'):=by
  unfold spec_l01From.f
  exact ev_l01From_l0 hC C.length 0 _ (by omega)
theorem ev_l01Bad {C:List Int} (hC:Cod C) {a h:Int} (ha:0≤a∧a≤(C.length:Int)) (d:List Int) (hd:1≤d.length∧d.length≤24):∃ r,(r.1.length≤25∧(0≤r.2.1∧r.2.1≤(C.length:Int)))∧spec_l01Bad.f C a h d=some r:=by
  obtain ⟨n,a1,h1,e1,n0,n1,s1⟩:=next_ok hC (h:=h) ha 50
  have hc:spec_l01Copy.f d=some d:=by
    unfold spec_l01Copy.f
    rw [l01Make_eq d (by omega)];rfl
  obtain ⟨q,a2,h2,e2,q0,q1,s2⟩:=next_ok hC (h:=h1) s1 (d.length:Int)
  obtain ⟨x,a3,h3,e3,_,s3⟩:=pick_ok hC (h:=h2) s2 [(-1),0,1,2,25] (by simp)
  unfold spec_l01Bad.f
  rw [hc,Option.bind_some,e1,Option.bind_some]
  dsimp only
  by_cases c0:n=0
  · rw [if_pos c0];exact ⟨_,⟨by simp,s1⟩,rfl⟩
  rw [if_neg c0]
  by_cases c1:n=1
  · rw [if_pos c1,l01N_eq,Option.bind_some,e2,Option.bind_some]
    dsimp only
    rw [e3,Option.bind_some]
    dsimp only
    rw [if_pos q0,if_pos (by omega)]
    exact ⟨_,⟨by rw [List.length_set];omega,s3⟩,rfl⟩
  rw [if_neg c1]
  by_cases c2:n=2
  · rw [if_pos c2,if_pos (by omega)]
    exact ⟨_,⟨by rw [List.length_append,List.length_singleton];omega,s1⟩,rfl⟩
  · rw [if_neg c2];exact ⟨_,⟨by simp only;omega,s1⟩,rfl⟩
theorem ev_l01Spoil {C:List Int} (hC:Cod C) {a h:Int} (ha:0≤a∧a≤(C.length:Int)):∃ r,(r.1.length≤25∧(0≤r.2.1∧r.2.1≤(C.length:Int)))∧Ev (fun k=>spec_l01Spoil.f k C a h) r:=by
  obtain ⟨u,⟨hu,s1⟩,h1⟩:=ev_l01Draw hC (h:=h) ha
  obtain ⟨r,h2,h3⟩:=ev_l01Bad hC (h:=u.2.2) s1 u.1 hu
  refine ⟨r,h2,?_⟩
  unfold spec_l01Spoil.f
  exact Ev.bind h1 (evat h3 (Ev.now _))
theorem ev_likeInts_l0 (xs:List Int) (hb:xs.length≤1000000):∀ (n i:Nat),i+n=xs.length→Ev (fun k=>laws_likeInts.l0 k xs xs (i:Int)) true:=by
  intro n
  induction n with
  | zero=>intro i h;refine Ev_succ ?_;simp only [laws_likeInts.l0];exact evneg (by omega) (Ev.now _)
  | succ n ih =>
    intro i h
    refine Ev_succ ?_
    simp only [laws_likeInts.l0]
    refine evpos (by omega) (evpos (by omega) (evpos (by omega) (evpos (by first|rfl|trivial) ?_)))
    rw [Tr.wrap_succ (by omega)]
    exact ih (i+1) (by omega)
theorem ev_likeInts (xs:List Int) (hb:xs.length≤1000000):Ev (fun k=>laws_likeInts.f k xs xs) true:=by
  unfold laws_likeInts.f
  exact evpos rfl (ev_likeInts_l0 xs hb xs.length 0 (by omega))
theorem ev_uniq {α:Type} {g:Nat→Option α} {a b:α} (h1:Ev g a) (h2:Ev g b):a=b:=by
  obtain ⟨k1,q1⟩:=h1
  obtain ⟨k2,q2⟩:=h2
  have e1:=q1 (max k1 k2) (by omega)
  have e2:=q2 (max k1 k2) (by omega)
  rw [e1] at e2
  exact Option.some.inj e2
theorem ev_hasInt_l0 (x:Int):∀ (s pre:List Int),(pre++s).length≤1000→x∈s→Ev (fun k=>laws_hasInt.l0 k (pre++s) x (pre.length:Int)) true:=by
  intro s
  induction s with
  | nil=>intro pre _ h;simp at h
  | cons y s ih =>
    intro pre hl hm
    have hl':=hl
    simp only [List.length_append,List.length_cons] at hl
    refine Ev_succ ?_
    simp only [laws_hasInt.l0]
    rw [Tr.rd_app0,Tr.rd_cons0,Tr.wrap_succ (by omega)]
    refine evpos (by simp;omega) (evpos (by omega) ?_)
    by_cases c:y=x
    · exact evpos c (Ev.now _)
    · have:=ih (pre++[y]) (by simpa using hl') (by
        rcases List.mem_cons.1 hm with q|q
        · exact absurd q.symm c
        · exact q)
      refine evneg c ?_
      simpa using this
theorem ev_hasInt {s:List Int} {x:Int} (hl:s.length≤1000) (hx:x∈s):Ev (fun k=>laws_hasInt.f k s x) true:=ev_hasInt_l0 x s [] (by simpa using hl) hx
theorem ev_evenE_l1 {d:List Int} {t:Tr.F} (h:Tr.Tree d t):∀ (m:Nat) (out:List Int),m≤t.size→out.length=t.size→(∀ x∈out,0≤x∧x≤1000)→(∀ v:Nat,v<t.size→rd d (v:Int)=0→rd out (v:Int)=2*(Td.lb d v:Int))→(∀ v:Nat,m≤v→v<t.size→¬ rd d (v:Int)=0→rd out (v:Int)=(rd out (rd ((t.sub v).roots (v+1)) 0)+rd out (rd ((t.sub v).roots (v+1)) ((((t.sub v).roots (v+1)).length:Int) - 1))) / 2) →
    ∃ r:List Int,Ev (fun k=>spec_EvenColumns.l1 k out ((m:Int) - 1) d) (r,0)∧Ev (fun k=>impl_even.l1 k d out ((m:Int) - 1)) r∧Td.Even d t r:=by
  have hle:=h.le
  have hlen:=h.len
  intro m
  induction m with
  | zero =>
    intro out _ ho hb hlf hmd
    refine ⟨out,Ev_succ ?_,Ev_succ ?_,⟨ho,hlf,fun v hv=>hmd v (Nat.zero_le _) hv⟩⟩
    · simp only [spec_EvenColumns.l1];exact evneg (by omega) (Ev.now _)
    · simp only [impl_even.l1];exact evneg (by omega) (Ev.now _)
  | succ m ih =>
    intro out hm ho hb hlf hmd
    have hdeg:=h.deg (v:=m) (by omega)
    have em:((m+1:Nat):Int) - 1=(m:Int):=by omega
    obtain ⟨n,hp⟩:=h.node (v:=m) (by omega)
    have hk1:=ev_l01Children (d:=d) (by omega) hp
    have hk2:=ev_kidsOf (d:=d) (by omega) hp
    have hkr:∀ c∈(t.sub m).roots (m+1),(m:Int)<c∧c<t.size:=fun c hc=>h.kid_range (by omega) hc
    have hkn:((t.sub m).roots (m+1)).length=(t.sub m).len:=Tr.F.roots_len _ _
    have hkl:((t.sub m).roots (m+1)).length≤1000:=by
      rw [Tr.F.roots_len]
      have h1:=Tr.F.len_le (t.sub m)
      have h2:=h.fits (v:=m) (by omega)
      omega
    generalize hks:(t.sub m).roots (m+1)=ks at hk1 hk2 hkr hkl hkn
    rw [em]
    by_cases hz:ks.length=0
    · obtain ⟨r,h1,h2,h3⟩:=ih out (by omega) ho hb hlf (fun v h1 h2 h3=>by
        by_cases e:v=m
        · subst e;omega
        · exact hmd v (by omega) h2 h3)
      refine ⟨r,Ev_succ ?_,Ev_succ ?_,h3⟩
      · simp only [spec_EvenColumns.l1]
        refine evpos (by omega) (Ev.bind hk1 (evneg (by omega) ?_))
        rw [Tr.wrap_id (by omega) (by omega)];exact h1
      · simp only [impl_even.l1]
        refine evpos (by omega) (Ev.bind hk2 (evneg (by omega) ?_))
        rw [Tr.wrap_id (by omega) (by omega)];exact h2
    · have m0:rd ks 0∈ks:=Tr.rd_mem (by omega) (by omega)
      have m1:rd ks ((ks.length:Int) - 1)∈ks:=Tr.rd_mem (by omega) (by omega)
      have k0:=hkr _ m0
      have k1:=hkr _ m1
      clear m0 m1 hkr
      generalize hc0:rd ks 0=c0 at k0
      generalize hc1:rd ks ((ks.length:Int) - 1)=c1 at k1
      have b0:=hb _ (Tr.rd_mem (l:=out) (i:=c0) (by omega) (by omega))
      have b1:=hb _ (Tr.rd_mem (l:=out) (i:=c1) (by omega) (by omega))
      generalize hs0:rd out c0=s0 at b0
      generalize hs1:rd out c1=s1 at b1
      obtain ⟨r,h1,h2,h3⟩:=ih (out.set m ((s0+s1) / 2)) (by omega) (by simpa using ho) (fun x hx=>by
        rcases List.mem_or_eq_of_mem_set hx with hx|rfl
        · exact hb x hx
        · omega) (fun v h1 h2=>by
          have:=Tr.rd_set (l:=out) (c:=(m:Int)) (x:=(s0+s1) / 2) (i:=v) (by omega) (by omega)
          rw [Int.toNat_natCast] at this
          have hne:¬ (m:Int)=(v:Int):=fun e=>by
            have e2:m=v:=by omega
            subst e2
            omega
          rw [this,if_neg hne]
          exact hlf v h1 h2) (fun v h1 h2 h3=>by
          have hst:∀ c:Nat,c<t.size→rd (out.set m ((s0+s1) / 2)) (c:Int)=if (m:Int)=c then (s0+s1) / 2 else rd out (c:Int):=fun c hc=>by
            have:=Tr.rd_set (l:=out) (c:=(m:Int)) (x:=(s0+s1) / 2) (i:=c) (by omega) (by omega)
            rw [Int.toNat_natCast] at this
            exact this
          have hvn:((t.sub v).roots (v+1)).length=(t.sub v).len:=Tr.F.roots_len _ _
          have hvd:=h.deg h2
          obtain ⟨a,ea,a1,a2,_⟩:=Td.kid_fit h h2 (c:=rd ((t.sub v).roots (v+1)) 0) (Tr.rd_mem (by omega) (by omega))
          obtain ⟨b,eb,b1,b2,_⟩:=Td.kid_fit h h2 (c:=rd ((t.sub v).roots (v+1)) ((((t.sub v).roots (v+1)).length:Int) - 1)) (Tr.rd_mem (by omega) (by omega))
          rw [ea,eb,hst v h2,hst a a2,hst b b2,if_neg (by omega:¬ (m:Int)=(a:Int)),if_neg (by omega:¬ (m:Int)=(b:Int))]
          by_cases e:v=m
          · subst e
            rw [hks,hc0] at ea
            rw [hks,hc1] at eb
            rw [if_pos rfl,← ea,← eb,hs0,hs1]
          · have:=hmd v (by omega) h2 h3
            rw [ea,eb] at this
            rw [if_neg (by omega)]
            exact this)
      refine ⟨r,Ev_succ ?_,Ev_succ ?_,h3⟩
      · simp only [spec_EvenColumns.l1]
        refine evpos (by omega) (Ev.bind hk1 ?_)
        rw [Tr.wrap_id (x:=(ks.length:Int) - 1) (by omega) (by omega),hc0,hc1,hs0,hs1,Tr.wrap_id (x:=s0+s1) (by omega) (by omega),l08Half_eq _ (by omega) (by omega),Tr.wrap_id (x:=(m:Int) - 1) (by omega) (by omega),Int.toNat_natCast]
        clear hc0 hc1 hs0 hs1
        exact evpos (by omega) (evpos (by omega) (evpos (by omega) (evpos (by omega) (evpos (by omega) (evpos (by omega) (evpos (by omega) (evpos (by omega) (evsome (evpos (by omega) (evpos (by omega) h1))))))))))
      · simp only [impl_even.l1]
        refine evpos (by omega) (Ev.bind hk2 ?_)
        rw [Tr.wrap_id (x:=(ks.length:Int) - 1) (by omega) (by omega),hc0,hc1,hs0,hs1,Tr.wrap_id (x:=s0+s1) (by omega) (by omega),Tr.wrap_id (x:=(m:Int) - 1) (by omega) (by omega),Int.toNat_natCast]
        clear hc0 hc1 hs0 hs1
        exact evpos (by omega) (evpos (by omega) (evpos (by omega) (evpos (by omega) (evpos (by omega) (evpos (by omega) (evpos (by omega) (evpos (by omega) (evpos (by omega) (evpos (by omega) h2)))))))))
theorem ev_evenE_l0 {d:List Int} {t:Tr.F} (h:Tr.Tree d t):∀ (m v:Nat) (out:List Int) (f:Int),v+m=t.size→out.length=t.size→0≤f→f≤v→(∀ x∈out,0≤x∧x≤1000)→f=(Td.lb d v:Int)→(∀ w:Nat,w<v→rd d (w:Int)=0→rd out (w:Int)=2*(Td.lb d w:Int)) →
    ∃ r:List Int,Ev (fun k=>spec_EvenColumns.l0 k (t.size:Int) out f (v:Int) d) (r,0)∧Ev (fun k=>impl_even.l0 k d out (2*f) d (t.size:Int) (v:Int)) r∧Td.Even d t r:=by
  have hle:=h.le
  have hlen:=h.len
  intro m
  induction m with
  | zero =>
    intro v out f hv ho h0 h1 hb hf hlf
    obtain ⟨r,h2,h3,h4⟩:=ev_evenE_l1 h t.size out (Nat.le_refl _) ho hb (fun w hw=>hlf w (by omega)) (fun w h1 h2=>by omega)
    refine ⟨r,Ev_succ ?_,Ev_succ ?_,h4⟩
    · simp only [spec_EvenColumns.l0]
      refine evneg (by omega) ?_
      rw [Tr.wrap_id (by omega) (by omega)];exact h2
    · simp only [impl_even.l0]
      refine evneg (by omega) ?_
      rw [hlen,Tr.wrap_id (by omega) (by omega)];exact h3
  | succ m ih =>
    intro v out f hv ho h0 h1 hb hf hlf
    have hls:=Td.lb_succ (d:=d) (v:=v) (by omega)
    by_cases hz:rd d (v:Int)=0
    · obtain ⟨r,h2,h3,h4⟩:=ih (v+1) (out.set v (2*f)) (f+1) (by omega) (by simpa using ho) (by omega) (by omega) (fun x hx=>by
        rcases List.mem_or_eq_of_mem_set hx with hx|rfl
        · exact hb x hx
        · omega) (by rw [if_pos hz] at hls;omega) (fun w h1 h2=>by
          have:=Tr.rd_set (l:=out) (c:=(v:Int)) (x:=2*f) (i:=w) (by omega) (by omega)
          rw [Int.toNat_natCast] at this
          rw [this]
          by_cases e:w=v
          · subst e;rw [if_pos rfl,hf]
          · rw [if_neg (by omega)];exact hlf w (by omega) h2)
      rw [show 2*(f+1)=2*f+2 by omega] at h3
      refine ⟨r,Ev_succ ?_,Ev_succ ?_,h4⟩
      · simp only [spec_EvenColumns.l0]
        rw [Tr.wrap_succ (by omega),Tr.wrap_id (x:=2*f) (by omega) (by omega),Tr.wrap_id (x:=f+1) (by omega) (by omega),Int.toNat_natCast]
        refine evpos (by omega) (evpos (by omega) (evpos (by omega) (evpos hz (evpos (by omega) h2))))
      · simp only [impl_even.l0]
        rw [Tr.wrap_succ (by omega),Tr.wrap_id (x:=2*f+2) (by omega) (by omega),Int.toNat_natCast]
        refine evpos (by omega) (evpos (by omega) (evpos (by omega) (evpos hz (evpos (by omega) h3))))
    · obtain ⟨r,h2,h3,h4⟩:=ih (v+1) out f (by omega) ho h0 (by omega) hb (by rw [if_neg hz] at hls;omega) (fun w h1 h2=>by
        by_cases e:w=v
        · subst e;exact absurd h2 hz
        · exact hlf w (by omega) h2)
      refine ⟨r,Ev_succ ?_,Ev_succ ?_,h4⟩
      · simp only [spec_EvenColumns.l0]
        rw [Tr.wrap_succ (by omega)]
        exact evpos (by omega) (evpos (by omega) (evpos (by omega) (evneg hz h2)))
      · simp only [impl_even.l0]
        rw [Tr.wrap_succ (by omega)]
        exact evpos (by omega) (evpos (by omega) (evpos (by omega) (evneg hz h3)))
theorem ev_EvenE {d:List Int} {t:Tr.F} (h:Tr.Tree d t):∃ r:List Int,Ev (fun k=>spec_EvenColumns.f k d) (r,0)∧Ev (fun k=>impl_EvenColumns.f k d) (r,0)∧Td.Even d t r:=by
  have hle:=h.le
  have hlen:=h.len
  obtain ⟨r,h1,h2,h3⟩:=ev_evenE_l0 h t.size 0 (List.replicate d.length 0) 0 (by omega) (by simpa using hlen) (by omega) (by omega) (fun x hx=>by rw [List.eq_of_mem_replicate hx];omega) (by simp [Td.lb]) (fun w hw=>by omega)
  refine ⟨r,?_,?_,h3⟩
  · unfold spec_EvenColumns.f
    refine Ev.bind (ev_l01Is d) (evpos h.isT ?_)
    rw [l01N_eq]
    refine evsome (evpos (by omega) (evpos (by omega) ?_))
    rw [Int.toNat_natCast,show (d.length:Int)=(t.size:Int) by omega]
    exact h1
  · unfold impl_EvenColumns.f impl_even.f
    refine Ev.bind (ev_IsTree d) (evpos h.isT ?_)
    refine Ev.bind (evpos (by omega) (evpos (by omega) ?_)) (Ev.now _)
    rw [Int.toNat_natCast,show (d.length:Int)=(t.size:Int) by omega]
    exact h2
theorem ev_pMax_l0:∀ (S Pre:List Int) (a:Int),(Pre++S).length≤1000→Ev (fun k=>slices_Max_int64_int64.l0 k (Pre++S) a (Pre.length:Int)) (Pj.pmx a S):=by
  intro S
  induction S with
  | nil =>
    intro Pre a hl
    refine Ev_succ ?_
    simp only [slices_Max_int64_int64.l0]
    exact evneg (by simp) (Ev.now _)
  | cons x S ih =>
    intro Pre a hl
    have hl2:=hl
    rw [List.length_append,List.length_cons] at hl
    have e:rd (Pre++x :: S) (Pre.length:Int)=x:=by rw [Tr.rd_app0];exact Tr.rd_cons0 _ _
    have e4:wrap64 ((Pre.length:Int)+1)=((Pre++[x]).length:Int):=by rw [Tr.wrap_id (by omega) (by omega)];simp
    refine Ev_succ ?_
    simp only [slices_Max_int64_int64.l0]
    refine evpos (by rw [List.length_append,List.length_cons];omega) (evpos (by omega) ?_)
    rw [e,e4,Pj.pmx]
    have:=ih (Pre++[x]) (mx a x) (by simpa using hl2)
    simpa using this
theorem ev_pMax (x:Int) (S:List Int) (hl:S.length≤900):Ev (fun k=>slices_Max_int64_int64.f k (x :: S)) (Pj.pmx x S):=by
  unfold slices_Max_int64_int64.f
  refine evneg (by simp only [List.length_cons];omega) (evpos (by simp only [List.length_cons];omega) ?_)
  rw [Tr.rd_cons0]
  exact ev_pMax_l0 S [x] x (by simp;omega)
theorem ev_l01Height_l0:∀ (S Pre:List Int) (a:Int),(Pre++S).length≤1000→Ev (fun k=>spec_l01Height.l0 k (Pre++S) a (Pre.length:Int)) (Pj.pmx a S):=by
  intro S
  induction S with
  | nil =>
    intro Pre a hl
    refine Ev_succ ?_
    simp only [spec_l01Height.l0]
    exact evneg (by simp) (Ev.now _)
  | cons x S ih =>
    intro Pre a hl
    have hl2:=hl
    rw [List.length_append,List.length_cons] at hl
    have e:rd (Pre++x :: S) (Pre.length:Int)=x:=by rw [Tr.rd_app0];exact Tr.rd_cons0 _ _
    have e4:wrap64 ((Pre.length:Int)+1)=((Pre++[x]).length:Int):=by rw [Tr.wrap_id (by omega) (by omega)];simp
    refine Ev_succ ?_
    simp only [spec_l01Height.l0]
    refine evpos (by rw [List.length_append,List.length_cons];omega) (evpos (by omega) ?_)
    rw [e,e4,Pj.pmx]
    have:=ih (Pre++[x]) (mx a x) (by simpa using hl2)
    simpa using this
theorem ev_l01Height {d:List Int} {t:Tr.F} (h:Tr.Tree d t):Ev (fun k=>spec_l01Height.f k d) (Pj.pmx 0 (Tr.depthsL t)):=by
  have hle:=h.le
  have hlen:=h.len
  have hdl:(Tr.depthsL t).length=t.size:=Tr.each_len _ _
  unfold spec_l01Height.f
  exact Ev.bind (ev_l01Depths h) (ev_l01Height_l0 (Tr.depthsL t) [] 0 (by simp;omega))
section
variable {d C D:List Int} {t:Tr.F} {W H:Nat}
theorem ev_pS3 (hC:∀ c∈C,0≤c∧c<(W:Int)) (hD:D.length=C.length) (hn:C.length≤1000) {out:ByteArray} {dep:Int} {R:ByteArray × Int} {fin:List Int} (hfin:Ev (fun k=>(if dep>0 then (if out.size+1≤9223372036854775807 then (if (out++(⟨#[47]⟩:ByteArray)).size+(strOfNums fin).size≤9223372036854775807 then (spec_PictureOf.l1 k C D (W:Int) ((out++(⟨#[47]⟩:ByteArray))++(strOfNums fin)) (wrap64 (dep+1)) d) else (none)) else (none)) else (if out.size+(strOfNums fin).size≤9223372036854775807 then (spec_PictureOf.l1 k C D (W:Int) (out++(strOfNums fin)) (wrap64 (dep+1)) d) else (none)))) R):∀ (m i:Nat) (r:List Int),i+m=C.length→r.length=W→Pj.mark C D dep m i r=fin→Ev (fun k=>spec_PictureOf.l3 k C D (W:Int) out dep r (i:Int) d) R:=by
  intro m
  induction m with
  | zero =>
    intro i r hi hr hf
    rw [Pj.mark] at hf
    subst hf
    refine Ev_succ ?_
    simp only [spec_PictureOf.l3]
    exact evneg (by omega) hfin
  | succ m ih =>
    intro i r hi hr hf
    have hc:=hC _ (Tr.rd_mem (l:=C) (i:=(i:Int)) (by omega) (by omega))
    rw [Pj.mark] at hf
    refine Ev_succ ?_
    simp only [spec_PictureOf.l3]
    rw [Tr.wrap_succ (by omega)]
    refine evpos (by omega) (evpos (by omega) (evpos (by omega) ?_))
    by_cases e:rd D (i:Int)=dep
    · rw [if_pos e] at hf
      exact evpos e (evpos hc.1 (evpos (by omega) (ih (i+1) _ (by omega) (by simpa using hr) hf)))
    · rw [if_neg e] at hf
      exact evneg e (ih (i+1) r (by omega) hr hf)
theorem ev_pS2 {out:ByteArray} {dep:Int} {R:ByteArray × Int} (hW:W≤1000) (hR:Ev (fun k=>spec_PictureOf.l3 k C D (W:Int) out dep (List.replicate W 46) 0 d) R):∀ (m j:Nat),j+m=W→Ev (fun k=>spec_PictureOf.l2 k C D (W:Int) out dep (List.replicate j 46) (j:Int) d) R:=by
  intro m
  induction m with
  | zero =>
    intro j hj
    rw [Nat.add_zero] at hj
    subst hj
    refine Ev_succ ?_
    simp only [spec_PictureOf.l2]
    exact evneg (by omega) hR
  | succ m ih =>
    intro j hj
    refine Ev_succ ?_
    simp only [spec_PictureOf.l2]
    rw [Tr.wrap_succ (by omega),← List.replicate_succ']
    exact evpos (by omega) (evpos (by simp;omega) (ih (j+1) (by omega)))
theorem ev_pS1 (hH:Ev (fun k=>spec_l01Height.f k d) (H:Int)) (hC:∀ c∈C,0≤c∧c<(W:Int)) (hD:D.length=C.length) (hn:C.length≤1000) (hW:W≤1000) (hH1:H≤1000):∀ (m j:Nat),j+m=H+1→Ev (fun k=>spec_PictureOf.l1 k C D (W:Int) (Pj.J (Pj.rows C D W j)) (j:Int) d) (Pj.J (Pj.rows C D W (H+1)),0):=by
  intro m
  induction m with
  | zero =>
    intro j hj
    rw [Nat.add_zero] at hj
    subst hj
    refine Ev_succ ?_
    simp only [spec_PictureOf.l1]
    exact Ev.bind hH (evneg (by omega) (Ev.now _))
  | succ m ih =>
    intro j hj
    have h1:=ih (j+1) (by omega)
    have hs:=Pj.J_rows_size C D W j
    have hs2:j*(W+1)≤1001*1001:=Nat.mul_le_mul (by omega) (by omega)
    have hrs:=Pj.row_size C D W j
    have hrl:=Pj.rows_len C D W j
    rw [Pj.rows_succ] at h1
    refine Ev_succ ?_
    simp only [spec_PictureOf.l1]
    refine Ev.bind hH (evpos (by omega) ?_)
    have h3:=ev_pS3 (d:=d) (out:=Pj.J (Pj.rows C D W j)) (dep:=(j:Int)) (R:=(Pj.J (Pj.rows C D W (H+1)),0)) (fin:=Pj.mark C D (j:Int) C.length 0 (List.replicate W 46)) hC hD hn (by
      rw [Tr.wrap_succ (by omega)]
      by_cases hj0:(j:Int)>0
      · refine evpos hj0 (evpos (by omega) (evpos ?_ ?_))
        · rw [ByteArray.size_append]
          have e1:(⟨#[47]⟩:ByteArray).size=1:=rfl
          have e2:(strOfNums (Pj.mark C D (j:Int) C.length 0 (List.replicate W 46))).size=W:=hrs
          omega
        · have e:=Pj.J_snoc (R:=Pj.rows C D W j) (Pj.row C D W j) (fun e=>by rw [e] at hrl;simp at hrl;omega)
          have e':(Pj.J (Pj.rows C D W j)++(⟨#[47]⟩:ByteArray))++strOfNums (Pj.mark C D (j:Int) C.length 0 (List.replicate W 46))=Pj.J (Pj.rows C D W j++[Pj.row C D W j]):=e
          rw [e']
          exact h1
      · have hj1:j=0:=by omega
        subst hj1
        refine evneg hj0 (evpos ?_ ?_)
        · have e2:(strOfNums (Pj.mark C D ((0:Nat):Int) C.length 0 (List.replicate W 46))).size=W:=hrs
          omega
        · have e':(⟨#[]⟩:ByteArray)++strOfNums (Pj.mark C D ((0:Nat):Int) C.length 0 (List.replicate W 46))=Pj.J (Pj.rows C D W 0++[Pj.row C D W 0]):=Pj.J_one _
          have e0:Pj.J (Pj.rows C D W 0)=(⟨#[]⟩:ByteArray):=rfl
          rw [e0,e']
          exact h1) C.length 0 (List.replicate W 46) (by omega) (by simp) rfl
    exact ev_pS2 hW h3 W 0 (by omega)
theorem ev_pS0 (hn:C.length≤1000) {out:ByteArray} {R:ByteArray × Int}:∀ (S Pre:List Int) (a:Int),C=Pre++S→(∀ c∈S,0≤c∧c≤1000)→Ev (fun k=>spec_PictureOf.l1 k C D (Pj.pw a S) out 0 d) R→Ev (fun k=>spec_PictureOf.l0 k C D a out (Pre.length:Int) d) R:=by
  intro S
  induction S with
  | nil =>
    intro Pre a hS hb hR
    rw [List.append_nil] at hS
    subst hS
    refine Ev_succ ?_
    simp only [spec_PictureOf.l0]
    exact evneg (by omega) hR
  | cons x S ih =>
    intro Pre a hS hb hR
    have hx:=hb x (by simp)
    have hl:C.length=Pre.length+(S.length+1):=by rw [hS];simp
    have e:rd C (Pre.length:Int)=x:=by rw [hS,Tr.rd_app0];exact Tr.rd_cons0 _ _
    have e4:wrap64 ((Pre.length:Int)+1)=((Pre++[x]).length:Int):=by rw [Tr.wrap_id (by omega) (by omega)];simp
    refine Ev_succ ?_
    simp only [spec_PictureOf.l0]
    refine evpos (by omega) (evpos (by omega) ?_)
    rw [e,e4,Tr.wrap_id (x:=x+1) (by omega) (by omega)]
    exact ih (Pre++[x]) (mx a (x+1)) (by rw [hS];simp) (fun c hc=>hb c (List.mem_cons_of_mem _ hc)) hR
end
section
variable {C D:List Int} {W H:Nat}
theorem ev_pI1 (hC:∀ c∈C,0≤c∧c<(W:Int)) (hD:D.length=C.length) (hn:C.length≤1000) {rs:List ByteArray} {dep hh:Int} {fin:List Int} {R:ByteArray × Int} (hrs:rs.length≤1000) (hfin:Ev (fun k=>impl_PictureOf.l0 k C D (rs++[strOfNums fin]) hh (wrap64 (dep+1))) R):∀ (m i:Nat) (r:List Int),i+m=C.length→r.length=W→Pj.mark C D dep m i r=fin→Ev (fun k=>impl_PictureOf.l1 k C D rs dep r hh dep C (C.length:Int) (i:Int)) R:=by
  intro m
  induction m with
  | zero =>
    intro i r hi hr hf
    rw [Pj.mark] at hf
    subst hf
    refine Ev_succ ?_
    simp only [impl_PictureOf.l1]
    exact evneg (by omega) (evpos (by omega) hfin)
  | succ m ih =>
    intro i r hi hr hf
    have hc:=hC _ (Tr.rd_mem (l:=C) (i:=(i:Int)) (by omega) (by omega))
    rw [Pj.mark] at hf
    refine Ev_succ ?_
    simp only [impl_PictureOf.l1]
    rw [Tr.wrap_succ (by omega)]
    refine evpos (by omega) (evpos (by omega) (evpos (by omega) (evpos (by omega) ?_)))
    by_cases e:rd D (i:Int)=dep
    · rw [if_pos e] at hf
      exact evpos e (evpos hc.1 (evpos (by omega) (ih (i+1) _ (by omega) (by simpa using hr) hf)))
    · rw [if_neg e] at hf
      exact evneg e (ih (i+1) r (by omega) hr hf)
theorem ev_pI0 {M:Int} (hM:Ev (fun k=>slices_Max_int64_int64.f k C) M) (hW:(W:Int)=M+1) (hC:∀ c∈C,0≤c∧c<(W:Int)) (hD:D.length=C.length) (hn:C.length≤1000) (hW2:W≤900) (hH1:H≤900):∀ (m j:Nat),j+m=H+1→Ev (fun k=>impl_PictureOf.l0 k C D (Pj.rows C D W j) ((H+1:Nat):Int) (j:Int)) (Pj.J (Pj.rows C D W (H+1)),0):=by
  intro m
  induction m with
  | zero =>
    intro j hj
    rw [Nat.add_zero] at hj
    subst hj
    have hs:=Pj.J_rows_size C D W (H+1)
    have hs2:(H+1)*(W+1)≤901*901:=Nat.mul_le_mul (by omega) (by omega)
    have hrl:=Pj.rows_len C D W (H+1)
    have hsz:(Pj.J (Pj.rows C D W (H+1))).size=(Lib.join ((Pj.rows C D W (H+1)).map (·.data.toList)) [47]).length:=rfl
    refine Ev_succ ?_
    simp only [impl_PictureOf.l0]
    refine evneg (by omega) ?_
    have e:strings_Join.f (Pj.rows C D W (H+1)) (⟨#[47]⟩:ByteArray)=some (Pj.J (Pj.rows C D W (H+1))):=by
      unfold strings_Join.f
      exact if_pos ⟨by omega,by show (Lib.join ((Pj.rows C D W (H+1)).map (·.data.toList)) [47]).length≤1000000;omega⟩
    rw [e]
    exact evsome (Ev.now _)
  | succ m ih =>
    intro j hj
    have h1:=ih (j+1) (by omega)
    have hrl:=Pj.rows_len C D W j
    rw [Pj.rows_succ] at h1
    refine Ev_succ ?_
    simp only [impl_PictureOf.l0]
    refine evpos (by omega) (Ev.bind hM ?_)
    have e:strings_Repeat.f (⟨#[46]⟩:ByteArray) (wrap64 (M+1))=some ⟨(Lib.repeatL (⟨#[46]⟩:ByteArray).data.toList W).toArray⟩:=by
      unfold strings_Repeat.f
      rw [Tr.wrap_id (by omega) (by omega),← hW,Int.toNat_natCast]
      exact if_pos ⟨by omega,by omega,by decide⟩
    rw [e]
    refine evsome ?_
    rw [Pj.bytesOf_dots]
    exact ev_pI1 hC hD hn (fin:=Pj.mark C D (j:Int) C.length 0 (List.replicate W 46)) (by omega) (by rw [Tr.wrap_succ (by omega)];exact h1) C.length 0 (List.replicate W 46) (by omega) (by simp) rfl
end
theorem mnl_mem:∀ (S:List Int) (a:Int),mnl a S=a∨mnl a S∈S:=by
  intro S
  induction S with
  | nil=>intro a;exact .inl rfl
  | cons x S ih =>
    intro a
    rw [mnl]
    rcases ih (mn a x) with h|h
    · have e:mn a x=a∨mn a x=x:=by unfold mn;split <;> simp
      rcases e with e|e
      · rw [e] at h;exact .inl (by rw [e];exact h)
      · rw [e] at h;exact .inr (by rw [e,h];simp)
    · exact .inr (List.mem_cons_of_mem _ h)
theorem mnl_lo:∀ (S:List Int) (a:Int),mnl a S≤a∧∀ x∈S,mnl a S≤x:=by
  intro S
  induction S with
  | nil=>intro a;exact ⟨Int.le_refl _,fun x h=>by simp at h⟩
  | cons y S ih =>
    intro a
    have h:=ih (mn a y)
    have e:mn a y≤a∧mn a y≤y:=by unfold mn;split <;> omega
    rw [mnl]
    refine ⟨by omega,fun x hx=>?_⟩
    rcases List.mem_cons.1 hx with rfl|q
    · omega
    · exact h.2 x q
def colsOf (b:Tr.F):List Int:=((Td.tre (Td.pl b ([],[]))).map Prod.snd).map (· - mnl (Td.rt (Td.pl b ([],[])).2) ((Td.pl b ([],[])).1.map Prod.snd))
theorem cols_ok (b:Tr.F):(colsOf b).length=b.size+1∧(∀ c∈colsOf b,0≤c∧c≤2*(b.size:Int))∧(0:Int)∈colsOf b:=by
  have hcols:(Td.tre (Td.pl b ([],[]))).map Prod.snd=Td.rt (Td.pl b ([],[])).2 :: (Td.pl b ([],[])).1.map Prod.snd:=by simp [Td.tre,Function.comp_def]
  obtain ⟨lo,hi,h1,h2⟩:=Td.tre_wide b
  have hl:=Td.pl_len b ([],[])
  have hle:=mnl_lo ((Td.pl b ([],[])).1.map Prod.snd) (Td.rt (Td.pl b ([],[])).2)
  have hmem:=mnl_mem ((Td.pl b ([],[])).1.map Prod.snd) (Td.rt (Td.pl b ([],[])).2)
  unfold colsOf
  rw [hcols] at h1 ⊢
  generalize Td.rt (Td.pl b ([],[])).2=x at *
  have hl2:((Td.pl b ([],[])).1.map Prod.snd).length=b.size:=by rw [List.length_map];simpa using hl
  generalize (Td.pl b ([],[])).1.map Prod.snd=S at *
  have hm0:mnl x S∈x :: S:=by
    rcases hmem with h|h
    · rw [h];exact List.mem_cons_self ..
    · exact List.mem_cons_of_mem _ h
  have hm1:=h1 _ hm0
  refine ⟨by simp [hl2],fun c hc=>?_,?_⟩
  · obtain ⟨y,hy,rfl⟩:=List.mem_map.1 hc
    have hy1:=h1 y hy
    have hy2:mnl x S≤y:=by
      rcases List.mem_cons.1 hy with rfl|hy
      · exact hle.1
      · exact hle.2 y hy
    omega
  · exact List.mem_map.2 ⟨_,hm0,by simp⟩
theorem ev_PicV {d:List Int} {t b:Tr.F} (h:Tr.Tree d t) (ht:t=.cons b .nil):∃ W H:Nat,(∀ c∈colsOf b,0≤c∧c<(W:Int))∧(∀ x∈Tr.depthsL t,0≤x∧x≤(H:Int))∧W≤900∧H≤900∧Ev (fun k=>spec_PictureOf.f k d) (Pj.J (Pj.rows (colsOf b) (Tr.depthsL t) W (H+1)),0)∧Ev (fun k=>impl_PictureOf.f k d) (Pj.J (Pj.rows (colsOf b) (Tr.depthsL t) W (H+1)),0):=by
  have hle:=h.le
  have hlen:=h.len
  have hp:=h.pl
  rw [ht] at hp
  have hsz:t.size=b.size+1:=by rw [ht];simp only [Tr.F.size];omega
  have hc:=ev_l08Columns h ht
  have hi_:=ev_tidy hle hp
  have hdl:(Tr.depthsL t).length=t.size:=Tr.each_len _ _
  obtain ⟨k1,k2,_⟩:=cols_ok b
  have hd0:=h.dep_zero
  have hdr:∀ x∈Tr.depthsL t,0≤x∧x≤24:=fun x hx=>by
    unfold Tr.depthsL Tr.each at hx
    obtain ⟨v,hv,rfl⟩:=List.mem_map.1 hx
    have:=h.dep_range v (by simpa using hv)
    have hv2:v<t.size:=by simpa using hv
    omega
  have hD0:rd (Tr.depthsL t) 0=0:=by
    have:rd (Tr.depthsL t) ((0:Nat):Int)=t.dep 0 0 0:=Tr.each_rd (by omega)
    rw [hd0] at this
    exact this
  have hH:=ev_l01Height h
  have hdp:=ev_l01Depths h
  have hdi:=ev_depthsOf h
  change Ev (fun k=>spec_l08Columns.f k d) (colsOf b) at hc
  change Ev (fun k=>impl_tidy.f k d) (colsOf b) at hi_
  generalize colsOf b=C at *
  generalize Tr.depthsL t=D at *
  obtain ⟨x,S,rfl⟩:∃ x S,C=x :: S:=by
    cases C with
    | nil=>simp at k1
    | cons x S=>exact ⟨x,S,rfl⟩
  obtain ⟨y,E,rfl⟩:∃ y E,D=y :: E:=by
    cases D with
    | nil=>simp at hdl;omega
    | cons y E=>exact ⟨y,E,rfl⟩
  rw [Tr.rd_cons0] at hD0
  subst hD0
  have hx:=k2 x (by simp)
  have hg:=Pj.pmx_ge S x
  have hg2:=Pj.pmx_le (B:=48) S x (by omega) (fun z hz=>by have:=k2 z (by simp [hz]);omega)
  have hh:=Pj.pmx_ge E 0
  have hh2:=Pj.pmx_le (B:=24) E 0 (by omega) (fun z hz=>by have:=hdr z (by simp [hz]);omega)
  have hMx:=ev_pMax x S (by simp at k1;omega)
  have hHx:=ev_pMax 0 E (by simp at hdl;omega)
  rw [Pj.pmx,show mx 0 0=0 from rfl] at hH
  obtain ⟨M,hMe⟩:=Int.eq_ofNat_of_zero_le (a:=Pj.pmx x S) (by omega)
  obtain ⟨H,hHe⟩:=Int.eq_ofNat_of_zero_le (a:=Pj.pmx 0 E) (by omega)
  rw [hMe] at hMx hg hg2
  rw [hHe] at hHx hH hh hh2
  have hCW:∀ c∈x :: S,0≤c∧c<((M+1:Nat):Int):=fun c hc=>by
    have h1:=k2 c hc
    rcases List.mem_cons.1 hc with rfl|q
    · omega
    · have:=hg.2 c q;omega
  refine ⟨M+1,H,hCW,fun z hz=>?_,by omega,by omega,?_,?_⟩
  · have h1:=hdr z hz
    rcases List.mem_cons.1 hz with rfl|q
    · omega
    · have:=hh.2 z q;omega
  · unfold spec_PictureOf.f
    refine Ev.bind (ev_l01Is d) (evpos h.isT (Ev.bind hc (Ev.bind hdp ?_)))
    refine ev_pS0 (C:=x :: S) (by omega) (x :: S) [] 0 rfl (fun c hc=>by have:=k2 c hc;omega) ?_
    rw [Pj.pw,show mx 0 (x+1)=x+1 by unfold mx;split <;> omega,Pj.pw_pmx,hMe]
    exact ev_pS1 (W:=M+1) hH hCW (by omega) (by omega) (by omega) (by omega) (H+1) 0 (by omega)
  · unfold impl_PictureOf.f
    refine Ev.bind (ev_IsTree d) (evpos h.isT (Ev.bind hi_ (Ev.bind hdi (Ev.bind hHx ?_))))
    rw [Tr.wrap_succ (by omega)]
    exact ev_pI0 (W:=M+1) hMx (by omega) hCW (by omega) (by omega) (by omega) (by omega) (H+1) 0 (by omega)
theorem ev_DrawTidyColumns {C:List Int} (hC:Cod C):∃ d:List Int,Ev (fun k=>spec_DrawTidyColumns.f k C) d:=by
  obtain ⟨h0,e0⟩:=ev_l01From hC
  obtain ⟨r,_,e1⟩:=ev_l01Spoil hC (h:=h0) (a:=0) ⟨by omega,by omega⟩
  exact ⟨r.1,Ev.bind e0 (Ev.bind e1 (Ev.now _))⟩
section
variable {d:List Int} {t b:Tr.F}
theorem depthsL_eq (t:Tr.F):Tr.depthsL t=t.depths 0:=by
  have hl:=Tr.F.depths_len t 0
  refine (Tr.each_eq hl (fun v hv=>?_)).symm
  rw [td_dep t 0 0 v (by omega) (by omega),Nat.sub_zero]
theorem tidy_apart (ht:t=.cons b .nil) {i j:Nat} (hij:i<j) (hj:j<t.size) (hd:rd (Tr.depthsL t) (i:Int)=rd (Tr.depthsL t) (j:Int)):rd (colsOf b) (i:Int)+2≤rd (colsOf b) (j:Int):=by
  have hsz:t.size=b.size+1:=by rw [ht];simp only [Tr.F.size];omega
  have e:t.depths 0=0 :: b.depths 1:=by rw [ht];simp [Tr.F.depths]
  rw [depthsL_eq,e] at hd
  exact Td.tidy_sep b _ hij (by omega) hd
theorem ev_WidV (h:Tr.Tree d t) (ht:t=.cons b .nil) {x:Int} {S:List Int} (hx:colsOf b=x :: S):Ev (fun k=>impl_TidyWidth.f k d) (Pj.pmx x S,0):=by
  have hle:=h.le
  have hp:=h.pl
  rw [ht] at hp
  have hi_:=ev_tidy hle hp
  obtain ⟨k1,_⟩:=cols_ok b
  have hple:=hp.le
  simp only [Tr.F.size] at hple
  change Ev (fun k=>impl_tidy.f k d) (colsOf b) at hi_
  rw [hx] at hi_ k1
  simp only [List.length_cons] at k1
  unfold impl_TidyWidth.f
  exact Ev.bind (ev_IsTree d) (evpos h.isT (Ev.bind hi_ (Ev.bind (ev_pMax x S (by omega)) (Ev.now _))))
theorem ev_BesV (h:Tr.Tree d t):Ev (fun k=>impl_BesideOf.f k d) (Tr.each (Tr.depthsL t).length (fun v=>Tr.idx (rd (Tr.depthsL t) (v:Int)) ((Tr.depthsL t).drop (v+1)) (v+1)),0):=by
  have hle:=h.le
  have hlen:=h.len
  have hdl:(Tr.depthsL t).length=t.size:=Tr.each_len _ _
  unfold impl_BesideOf.f
  refine Ev.bind (ev_IsTree d) (evpos h.isT (Ev.bind (ev_depthsOf h) ?_))
  rw [show (d.length:Int)=((Tr.depthsL t).length:Int) by omega]
  exact ev_Beside_impl_l0 _ (by omega) _ rfl (Tr.depthsL t).length 0 (by omega)
theorem ev_DepV (h:Tr.Tree d t):Ev (fun k=>impl_DepthsOf.f k d) (Tr.depthsL t,0):=by
  unfold impl_DepthsOf.f
  exact Ev.bind (ev_IsTree d) (evpos h.isT (Ev.bind (ev_depthsOf h) (Ev.now _)))
theorem ev_TidV (h:Tr.Tree d t) (ht:t=.cons b .nil):Ev (fun k=>impl_TidyColumns.f k d) (colsOf b,0)∧Ev (fun k=>spec_TidyColumns.f k d) (colsOf b,0):=by
  have hle:=h.le
  have hp:=h.pl
  rw [ht] at hp
  refine ⟨?_,?_⟩
  · unfold impl_TidyColumns.f;exact Ev.bind (ev_IsTree d) (evpos h.isT (Ev.bind (ev_tidy hle hp) (Ev.now _)))
  · unfold spec_TidyColumns.f;exact Ev.bind (ev_l01Is d) (evpos h.isT (Ev.bind (ev_l08Columns h ht) (Ev.now _)))
theorem beside_ok {D:List Int} {v:Nat} (hv:v<D.length) (h:0≤Tr.idx (rd D (v:Int)) (D.drop (v+1)) (v+1)):∃ w:Nat,Tr.idx (rd D (v:Int)) (D.drop (v+1)) (v+1)=w∧v<w∧w<D.length∧rd D (w:Int)=rd D (v:Int):=by
  have hr:=Tr.idx_range (rd D (v:Int)) (D.drop (v+1)) (v+1)
  have hg:=Tr.idx_get (rd D (v:Int)) (D.drop (v+1)) (v+1) h
  obtain ⟨w,hw⟩:=Int.eq_ofNat_of_zero_le h
  rw [hw] at hr hg
  rw [List.length_drop] at hr
  refine ⟨w,hw,by omega,by omega,?_⟩
  have e:D=D.take (v+1)++D.drop (v+1):=(List.take_append_drop _ _).symm
  have hl:(D.take (v+1)).length=v+1:=by simp;omega
  have h2:=Tr.rd_app (D.take (v+1)) (D.drop (v+1)) (w - (v+1))
  rw [← e,hl,show v+1+(w - (v+1))=w by omega] at h2
  rw [h2,← hg]
  congr 1;omega
end
theorem bt_get (s:ByteArray) (i:Nat) (h:i<s.size):bt s (i:Int)=((s.data.toList[i]'(by simpa using h)).toNat:Int):=by
  unfold bt
  rw [dif_pos (by simpa using h)]
  rfl
theorem ev_FnDrawings_l1 {x4:List Int} {m:Int} {s:ByteArray} (hs:s.size≤1000000) (h0:(0:Int)∈x4) (h4:x4.length≤1000) (hc:Pj.cB s.data.toList=x4.length):∀ (n i c:Nat),i+n=s.size→c+Pj.cB (s.data.toList.drop i)=x4.length→Ev (fun k=>laws_FnDrawings.l1 k x4 m s m (c:Int) (i:Int)) true:=by
  have hsl:s.data.toList.length=s.size:=by simp
  intro n
  induction n with
  | zero =>
    intro i c hi hcc
    rw [List.drop_of_length_le (by omega)] at hcc
    simp only [Pj.cB,List.countP_nil] at hcc
    refine Ev_succ ?_
    simp only [laws_FnDrawings.l1]
    exact evneg (by omega) (Ev.bind (ev_hasInt h4 h0) (evpos (by trivial) (evpos (by trivial) (evnow (by simp;omega)))))
  | succ n ih =>
    intro i c hi hcc
    have hd:s.data.toList.drop i=s.data.toList[i]'(by omega) :: s.data.toList.drop (i+1):=List.drop_eq_getElem_cons (by omega)
    rw [hd] at hcc
    have hb:=bt_get s i (by omega)
    simp only [Pj.cB,List.countP_cons] at hcc
    refine Ev_succ ?_
    simp only [laws_FnDrawings.l1]
    rw [Tr.wrap_succ (i:=i) (by omega),Tr.wrap_succ (i:=c) (by omega),hb]
    refine evpos (by omega) (evpos (by omega) ?_)
    by_cases e:(s.data.toList[i]'(by omega)).toNat=111
    · rw [decide_eq_true e,if_pos rfl] at hcc
      exact evpos (by omega) (ih (i+1) (c+1) (by omega) (by simp only [Pj.cB];omega))
    · rw [decide_eq_false e,if_neg (by simp)] at hcc
      exact evneg (by omega) (ih (i+1) c (by omega) (by simp only [Pj.cB];omega))
theorem ev_FnDrawings_l0 {C E D B:List Int} {m:Int} {s:ByteArray} (hC:C.length≤1000) (hE:E.length=C.length) (hD:D.length=C.length) (hC48:∀ c∈C,0≤c∧c≤1000) (hE48:∀ v:Nat,v<E.length→0≤rd E (v:Int)∧rd E (v:Int)≤1000) (hB:B=Tr.each D.length (fun v=>Tr.idx (rd D (v:Int)) (D.drop (v+1)) (v+1))) (hcs:∀ i j:Nat,i<j→j<C.length→rd D (i:Int)=rd D (j:Int)→rd C (i:Int)+2≤rd C (j:Int)) (hes:∀ i j:Nat,i<j→j<C.length→rd D (i:Int)=rd D (j:Int)→rd E (i:Int)+2≤rd E (j:Int)) (hfin:Ev (fun k=>laws_FnDrawings.l1 k C m s m 0 0) true):∀ (S Pre:List Int) (a:Int),C=Pre++S→Pj.pmx a S=m→Ev (fun k=>laws_FnDrawings.l0 k C E m s B D a (Pre.length:Int)) true:=by
  have hBl:B.length=D.length:=by rw [hB,Tr.each_len]
  intro S
  induction S with
  | nil =>
    intro Pre a hS hm
    rw [List.append_nil] at hS
    subst hS
    rw [Pj.pmx] at hm
    subst hm
    refine Ev_succ ?_
    simp only [laws_FnDrawings.l0]
    exact evneg (by omega) hfin
  | cons x S ih =>
    intro Pre a hS hm
    have hl:C.length=Pre.length+(S.length+1):=by rw [hS];simp
    have e:rd C (Pre.length:Int)=x:=by rw [hS,Tr.rd_app0];exact Tr.rd_cons0 _ _
    have e4:wrap64 ((Pre.length:Int)+1)=((Pre++[x]).length:Int):=by rw [Tr.wrap_id (by omega) (by omega)];simp
    rw [Pj.pmx] at hm
    have hn:=ih (Pre++[x]) (mx a x) (by rw [hS];simp) hm
    have hj:Ev (fun k=>laws_FnDrawings.j7 k C E m s B D (mx a x) (Pre.length:Int) false) true:=by
      refine Ev_succ ?_
      simp only [laws_FnDrawings.j7]
      rw [e4]
      exact evneg (by simp) hn
    have hBv:rd B (Pre.length:Int)=Tr.idx (rd D (Pre.length:Int)) (D.drop (Pre.length+1)) (Pre.length+1):=by
      rw [hB];exact Tr.each_rd (by omega)
    have hxr:=hC48 _ (Tr.rd_mem (l:=C) (i:=(Pre.length:Int)) (by omega) (by omega))
    have her:=hE48 Pre.length (by omega)
    refine Ev_succ ?_
    simp only [laws_FnDrawings.l0]
    refine evpos (by omega) (evpos (by omega) (evpos (by omega) ?_))
    by_cases c:rd B (Pre.length:Int)≥0
    · rw [hBv] at c
      obtain ⟨w,hw,w1,w2,w3⟩:=beside_ok (by omega) c
      have q1:=hcs Pre.length w w1 (by omega) w3.symm
      have q2:=hes Pre.length w w1 (by omega) w3.symm
      rw [hBv,hw]
      rw [Tr.wrap_id (x:=rd C (Pre.length:Int)+2) (by omega) (by omega),Tr.wrap_id (x:=rd E (Pre.length:Int)+2) (by omega) (by omega),decide_eq_false (show ¬ rd E (w:Int)<rd E (Pre.length:Int)+2 by omega),e]
      rw [e] at q1
      exact evpos (by omega) (evpos (by omega) (evpos (by omega) (evpos (by omega) (evpos w3 (evpos (by omega) (evneg (by omega) (evpos (by omega) (evpos (by omega) hj))))))))
    · rw [e]
      exact evneg c hj
theorem pure_FnDrawings (C:List Int) (hl:C.length≤maxLen) (hw:∀ x∈C,(Lit.int .u8 x).wf=true):∃ k,laws_FnDrawings.f k C=some true:=by
  refine Ev.rounds ?_
  unfold laws_FnDrawings.f laws_big.f
  by_cases hb:(C.length:Int)>4096
  · exact evsome (evpos (by simpa using hb) (Ev.now _))
  have hC:Cod C:=⟨by omega,fun x hx=>by
      have:=hw x hx
      have h3:IntKind.u8.min≤x∧x≤IntKind.u8.max:=by simpa [Lit.wf] using this
      exact h3⟩
  obtain ⟨d,e1⟩:=ev_DrawTidyColumns hC
  refine evsome (evneg (by simpa using hb) (Ev.bind e1 ?_))
  rcases Tr.isT_cases d with h|⟨t,h⟩
  · have t1:Ev (fun k=>impl_TidyColumns.f k d) ([],1):=by unfold impl_TidyColumns.f;exact Ev.bind (ev_IsTree d) (evneg (by simp [h]) (Ev.now _))
    have t2:Ev (fun k=>spec_TidyColumns.f k d) ([],1):=by unfold spec_TidyColumns.f;exact Ev.bind (ev_l01Is d) (evneg (by simp [h]) (Ev.now _))
    have v1:Ev (fun k=>impl_EvenColumns.f k d) ([],1):=by unfold impl_EvenColumns.f;exact Ev.bind (ev_IsTree d) (evneg (by simp [h]) (Ev.now _))
    have v2:Ev (fun k=>spec_EvenColumns.f k d) ([],1):=by unfold spec_EvenColumns.f;exact Ev.bind (ev_l01Is d) (evneg (by simp [h]) (Ev.now _))
    have w1:Ev (fun k=>impl_TidyWidth.f k d) (0,1):=by unfold impl_TidyWidth.f;exact Ev.bind (ev_IsTree d) (evneg (by simp [h]) (Ev.now _))
    have w2:Ev (fun k=>spec_TidyWidth.f k d) (0,1):=by unfold spec_TidyWidth.f;exact Ev.bind (ev_l01Is d) (evneg (by simp [h]) (Ev.now _))
    have p1:Ev (fun k=>impl_PictureOf.f k d) (⟨#[]⟩,1):=by unfold impl_PictureOf.f;exact Ev.bind (ev_IsTree d) (evneg (by simp [h]) (Ev.now _))
    have p2:Ev (fun k=>spec_PictureOf.f k d) (⟨#[]⟩,1):=by unfold spec_PictureOf.f;exact Ev.bind (ev_l01Is d) (evneg (by simp [h]) (Ev.now _))
    have b1:Ev (fun k=>impl_BesideOf.f k d) ([],1):=by unfold impl_BesideOf.f;exact Ev.bind (ev_IsTree d) (evneg (by simp [h]) (Ev.now _))
    have b2:Ev (fun k=>spec_BesideOf.f k d) ([],1):=by unfold spec_BesideOf.f;exact Ev.bind (ev_l01Is d) (evneg (by simp [h]) (Ev.now _))
    refine Ev.bind t1 (Ev.bind t2 (evpos rfl (Ev.bind (ev_likeInts _ (by simp)) (Ev_succ ?_))))
    simp only [laws_FnDrawings.j0]
    refine evneg (by simp) (Ev.bind v1 (Ev.bind v2 (evpos rfl (Ev.bind (ev_likeInts _ (by simp)) (Ev_succ ?_)))))
    simp only [laws_FnDrawings.j1]
    refine evneg (by simp) (Ev.bind w1 (Ev.bind w2 (evpos rfl (Ev_succ ?_))))
    simp only [laws_FnDrawings.j2]
    refine evneg (by simp) (Ev.bind p1 (Ev.bind p2 (evpos rfl (Ev_succ ?_))))
    simp only [laws_FnDrawings.j3]
    refine evneg (by simp) (Ev.bind b1 (Ev.bind b2 (evpos rfl (Ev.bind (ev_likeInts _ (by simp)) (Ev_succ ?_)))))
    simp only [laws_FnDrawings.j4]
    exact evneg (by simp) (evneg (by decide) (evpos (by trivial) (evpos (by trivial) (evpos (by trivial) (evpos (by trivial) (Ev.now _))))))
  · obtain ⟨b,ht⟩:=h.one
    have hle:=h.le
    have hlen:=h.len
    have hsz:t.size=b.size+1:=by rw [ht];simp only [Tr.F.size];omega
    have hdl:(Tr.depthsL t).length=t.size:=Tr.each_len _ _
    obtain ⟨t1,t2⟩:=ev_TidV h ht
    obtain ⟨E,v2,v1,hE⟩:=ev_EvenE h
    obtain ⟨W,H,g1,g2,g3,g4,p2,p1⟩:=ev_PicV h ht
    obtain ⟨r,b2,b1,b3⟩:=ev_BesideOf d
    have hr:=ev_uniq b1 (ev_BesV h)
    obtain ⟨k1,k2,k3⟩:=cols_ok b
    have hsep:∀ i j:Nat,i<j→j<(colsOf b).length→rd (Tr.depthsL t) (i:Int)=rd (Tr.depthsL t) (j:Int)→rd (colsOf b) (i:Int)+2≤rd (colsOf b) (j:Int):=fun i j hij hj hd=>tidy_apart ht hij (by omega) hd
    have hesep:∀ i j:Nat,i<j→j<(colsOf b).length→rd (Tr.depthsL t) (i:Int)=rd (Tr.depthsL t) (j:Int)→rd E (i:Int)+2≤rd E (j:Int):=fun i j hij hj hd=>Td.even_sep h hE hij (by omega) (by rw [← depthsL_eq];exact hd)
    have hEl:=hE.len
    have hEr:∀ v:Nat,v<E.length→0≤rd E (v:Int)∧rd E (v:Int)≤1000:=fun v hv=>by
      have q:=Td.even_in h hE (t.size - v) v (by omega) (by omega)
      have q2:Td.lb d (v+1+(t.sub v).size)≤24:=by
        unfold Td.lb
        have a1:=List.length_filter_le (fun x:Int=>decide (x=0)) (d.take (v+1+(t.sub v).size))
        have a2:=List.length_take_le (v+1+(t.sub v).size) d
        have a3:=List.length_take_le' (v+1+(t.sub v).size) d
        omega
      omega
    have hcnt:=Pj.all_count (C:=colsOf b) (D:=Tr.depthsL t) (W:=W) (H:=H) (by omega) g1 hsep g2
    have hsize:=Pj.J_rows_size (colsOf b) (Tr.depthsL t) W (H+1)
    have hs2:(H+1)*(W+1)≤901*901:=Nat.mul_le_mul (by omega) (by omega)
    have hdv:=ev_DepV h
    have hwv:∀ x S,colsOf b=x :: S→Ev (fun k=>impl_TidyWidth.f k d) (Pj.pmx x S,0):=fun x S hx=>ev_WidV h ht hx
    obtain ⟨wr,w2,w1⟩:=ev_TidyWidth d
    generalize colsOf b=CO at *
    generalize Tr.depthsL t=D at *
    generalize Pj.J (Pj.rows CO D W (H+1))=pic at *
    obtain ⟨x,S,hxS⟩:∃ x S,CO=x :: S:=by
      cases CO with
      | nil=>simp at k1
      | cons x S=>exact ⟨x,S,rfl⟩
    have hwr:wr=(Pj.pmx x S,0):=ev_uniq w1 (hwv x S hxS)
    subst hwr
    refine Ev.bind t1 (Ev.bind t2 (evpos rfl (Ev.bind (ev_likeInts CO (by omega)) (Ev_succ ?_))))
    simp only [laws_FnDrawings.j0]
    refine evneg (by simp) (Ev.bind v1 (Ev.bind v2 (evpos rfl (Ev.bind (ev_likeInts E (by omega)) (Ev_succ ?_)))))
    simp only [laws_FnDrawings.j1]
    refine evneg (by simp) (Ev.bind w1 (Ev.bind w2 (evpos rfl (Ev_succ ?_))))
    simp only [laws_FnDrawings.j2]
    refine evneg (by simp) (Ev.bind p1 (Ev.bind p2 (evpos rfl (Ev_succ ?_))))
    simp only [laws_FnDrawings.j3]
    refine evneg (by simp) (Ev.bind b1 (Ev.bind b2 (evpos rfl (Ev.bind (ev_likeInts _ (by omega)) (Ev_succ ?_)))))
    simp only [laws_FnDrawings.j4]
    rw [hr]
    refine evneg (by simp) (evpos (by trivial) (Ev.bind hdv (evpos (by trivial) (evpos (by trivial) (evpos (by trivial) (evpos (by trivial) (Ev_succ ?_)))))))
    simp only [laws_FnDrawings.j5]
    refine evneg (by decide) ?_
    have hx0:=(k2 x (by rw [hxS];simp)).1
    exact ev_FnDrawings_l0 (C:=CO) (by omega) (by omega) (by omega) (fun c hc=>by have:=k2 c hc;omega) hEr rfl hsep hesep (ev_FnDrawings_l1 (by omega) k3 (by omega) hcnt pic.size 0 0 (by omega) (by simpa using hcnt)) CO [] 0 rfl (by rw [hxS,Pj.pmx,show mx 0 x=x by unfold mx;split <;> omega])
end Go.Proofs.Ytimfbpmaepmdoaa.QFnDrawings
