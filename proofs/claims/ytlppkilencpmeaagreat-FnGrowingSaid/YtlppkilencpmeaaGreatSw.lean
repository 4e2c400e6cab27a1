/- In the middle of a region: more is held from here on. -/
import Derived.Test.YtlppkilencpmeaaGreatGl
namespace Go.Proofs.YtlppkilencpmeaaGreat.Gl
open Go.RowKit Go.Proofs.YtlppkilencpmeaaGreatW.PrintWords Go.Proofs.YtlppkilencpmeaaGreatW.PrintLast Go.Proofs.YtlppkilencpmeaaGreatW.PrintMore
section
variable {P:Program} {ops:Array Oper} {Q:Exit→Act→World→Prop} {md:Region.Mode} {S S':World→Prop} {ds:List Nat}
theorem swapS (hSS:∀ w,S' w→S w) (n0:Nat):∀ (fuel:Nat) (listed:Array Bool) (a:Act) (w:World),S' w→ListedClosed md ops listed →
    (∀ d∈ds,listed.getD d true=false→∀ i,listed.getD i true=false→i<ops.size→i≠d→Region.reachB md ops i n0 d=true) →
    wpAnyLast P md ops Q S' ds fuel listed a w→wpAnyLast P md ops Q S ds fuel listed a w:=by
  intro fuel
  induction fuel with
  | zero=>intro listed a w _ _ _ h;exact h
  | succ fuel ih =>
    intro listed a w hS hc hd h
    refine ⟨h.1,fun j hj=>?_⟩
    obtain ⟨hjun,oj,hoj,hall⟩:=mem_ready.1 hj
    by_cases hjd:j∈ds
    · refine wpOp_mono (fun a' w' h3=>⟨fun hn=>absurd hjd hn,?_⟩) (h.2 j hj)
      have hr:Region.ready md ops (listed.setIfInBounds j true)=[]:=by
        refine List.eq_nil_iff_forall_not_mem.mpr (fun k hk=>?_)
        obtain ⟨hkun,ok,hok,_⟩:=mem_ready.1 hk
        by_cases hjk:j=k
        · subst hjk
          rcases Nat.lt_or_ge j listed.size with h'|h'
          · simp [h'] at hkun
          · simp [Array.getElem?_eq_none h'] at hjun
        · rw [getD_set_ne true hjk] at hkun
          have hlt:k<ops.size:=(Array.getElem?_eq_some_iff.1 hok).1
          exact Region.reach_not_ready hc (hd j hjd hjun k hkun hlt (fun e=>hjk e.symm)) hkun hj
      refine wpAnyLast_done hr ?_ _
      have h4:=h3.2
      cases fuel with
      | zero=>exact h4.2
      | succ f=>exact h4.1 hr
    · refine wpOp_mono (fun a' w' h3=>?_) (h.2 j hj)
      have hS':=h3.1 hjd hS
      refine ⟨fun _ _=>hSS w' hS',ih (listed.setIfInBounds j true) a' w' hS' (hc.set hj) (fun d hm hun i hiun hi hne=>?_) h3.2⟩
      refine hd d hm ?_ i ?_ hi hne
      · by_cases hjk:j=d
        · subst hjk;exact hjun
        · rw [getD_set_ne true hjk] at hun;exact hun
      · by_cases hjk:j=i
        · subst hjk;exact hjun
        · rw [getD_set_ne true hjk] at hiun;exact hiun
def swapB (md:Region.Mode) (ops:Array Oper) (ds:List Nat) (l:Array Bool) (n0:Nat):Bool :=
  Region.closedB md ops l && ds.all fun d=>l.getD d true || (List.range ops.size).all fun i=>l.getD i true || (i == d) || Region.reachB md ops i n0 d
theorem swapS_ {fuel:Nat} {l:Array Bool} {a:Act} {w:World} (n0:Nat) (S':World→Prop) (hSS:∀ w,S' w→S w) (hS:S' w) (hc:swapB md ops ds l n0=true)
    (h:S' w→wpAnyLast P md ops Q S' ds fuel l a w):wpAnyLast P md ops Q S ds fuel l a w:=by
  unfold swapB at hc
  rw [Bool.and_eq_true] at hc
  refine swapS hSS n0 fuel l a w hS (Region.closedB_spec hc.1) (fun d hd hun i hiun hi hne=>?_) (h hS)
  have h1:=List.all_eq_true.1 hc.2 d hd
  rw [hun,Bool.false_or] at h1
  have h2:=List.all_eq_true.1 h1 i (List.mem_range.2 hi)
  rw [hiun,Bool.false_or,Bool.or_eq_true] at h2
  rcases h2 with h2|h2
  · exact absurd (by simpa using h2) hne
  · exact h2
theorem swapA_ {fuel:Nat} {l:Array Bool} {a:Act} {w:World} (n0:Nat) (E:World→Prop) (hS:S w) (hE:E w) (hc:swapB md ops ds l n0=true)
    (h:S w∧E w→wpAnyLast P md ops Q (fun w=>S w∧E w) ds fuel l a w):wpAnyLast P md ops Q S ds fuel l a w :=
  swapS_ n0 (fun w=>S w∧E w) (fun _ h=>h.1) ⟨hS,hE⟩ hc h
end
end Go.Proofs.YtlppkilencpmeaaGreat.Gl
