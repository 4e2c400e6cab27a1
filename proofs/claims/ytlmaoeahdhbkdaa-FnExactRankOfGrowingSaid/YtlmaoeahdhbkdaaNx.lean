/- The next growing order: how a beginning goes on by the least nodes. Plain mathematics, no program in sight. -/
import Derived.Test.YtlmaoeahdhbkdaaOd
namespace Go.Proofs.Ytlmaoeahdhbkdaa.Tr
open Go.RowKit Go.Proofs.YtlmaoeahdhbkdaaW.PrintWords
set_option linter.unusedSimpArgs false
set_option linter.unusedVariables false

/-- So many nodes more, each the least that may come. -/
def fillL (t : F) : Nat → List Int → List Int
  | 0, b => b
  | m + 1, b => fillL t m (b ++ [rd (nxt t b) 0])
theorem fillL_len (t : F) : ∀ m b, (fillL t m b).length = b.length + m := by
  intro m
  induction m with
  | zero => intro b; rfl
  | succ m ih => intro b; rw [fillL, ih]; simp; omega
theorem nxt_range {t : F} {beg : List Int} {c : Int} (h : c ∈ nxt t beg) : 0 ≤ c ∧ c < t.size := by
  obtain ⟨v, rfl, hv, _⟩ := nxt_mem.1 h
  omega
theorem nxt_len (t : F) (beg : List Int) : (nxt t beg).length ≤ t.size := nxtTo_len t beg t.size
theorem rd_range {t : F} {beg : List Int} (h : 1 ≤ (nxt t beg).length) : 0 ≤ rd (nxt t beg) 0 ∧ rd (nxt t beg) 0 < t.size :=
  nxt_range (rd_mem (by omega) (by omega))
/-- The first of a list that is greater than x. -/
def firstGt (x : Int) : List Int → Option Int
  | [] => none
  | v :: l => if v ≤ x then firstGt x l else some v
theorem firstGt_mem {x : Int} : ∀ {l : List Int} {v : Int}, firstGt x l = some v → v ∈ l := by
  intro l
  induction l with
  | nil => intro v h; cases h
  | cons y l ih =>
    intro v h
    unfold firstGt at h
    split at h
    · exact List.mem_cons_of_mem _ (ih h)
    · injection h with h; rw [← h]; exact List.mem_cons_self ..
/-- The next order: the last place from which on it can be greater, the least there, then the least ones. -/
def nextG (t : F) (l : List Int) : Nat → List Int × Int
  | 0 => ([], 4)
  | i + 1 => match firstGt (rd l (i : Int)) (nxt t (l.take i)) with
    | some v => (fillL t (t.size - (i + 1)) (l.take i ++ [v]), 0)
    | none => nextG t l i
end Go.Proofs.Ytlmaoeahdhbkdaa.Tr
