/- A struct of one field, by value, opened: the row of numbers that it holds. -/
import Derived.Test.YtimfbpmaepmdoaaWSized
import Derived.Test.YtimfbpmaepmdoaaWWords
import Derived.Lib.SmallJoins
import Derived.ProofKit
namespace Go.Proofs.Ytimfbpmaepmdoaa.Agg
open Go.ChangeShapes Go.WideShapes Go.ChangeAt Go.RowKit Go.Deep Go.WideElems Go.Joins
set_option linter.unusedVariables false
def IsRow (k:IntKind) (w:World) (a:Option Addr) (len cap:Nat) (zs:List Int):Prop :=
  (a=none∧len=0∧cap=0∧zs=[]) ∨
  ∃ x,a=some x∧len≤cap∧cap≤maxLen∧zs.length=cap∧(∀ i,i<zs.length→w.cell? (x.add i)=some (.int k (zs.getD i 0)))∧∀ n∈zs,(Lit.int k n).wf=true
theorem open_row {H:Type} {enc:TypeId × Value→H} {P:Program} {w:World} {base:Nat} {held:Bool} {t e:TypeId} {k:IntKind} {n:Nat} {v0:Value} {y0:DataW H × List MemPlace} (ht:P.underlying t=some (.slice e)) (he:P.underlying e=some (.int k)) (hc:P.cellsOf e=1)
    (h:DataW.trod enc P w base (fun _=>true) held n t [v0]=some y0):∃ a len cap zs,v0=.slice a len cap∧IsRow k w a len cap zs:=by
  rcases open_ints ht he hc h with ⟨hcs,_⟩|⟨x,l,c,zs,hcs,_,hl,hm,hz,_,hcell,hwz⟩
  · simp only [List.cons.injEq,and_true] at hcs
    exact ⟨none,0,0,[],hcs,.inl ⟨rfl,rfl,rfl,rfl⟩⟩
  · simp only [List.cons.injEq,and_true] at hcs
    exact ⟨some x,l,c,zs,hcs,.inr ⟨x,rfl,hl,hm,by simpa using hz,hcell,hwz⟩⟩
end Go.Proofs.Ytimfbpmaepmdoaa.Agg
