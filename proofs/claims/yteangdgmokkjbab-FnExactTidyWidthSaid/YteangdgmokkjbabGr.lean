/- Growing orders: the nodes that can come next. Plain mathematics, no program in sight. -/
import Derived.Test.YteangdgmokkjbabNd
namespace Go.Proofs.Yteangdgmokkjbab.Tr
open Go.RowKit Go.Proofs.YteangdgmokkjbabW.PrintWords
set_option linter.unusedSimpArgs false
set_option linter.unusedVariables false

theorem rdOf_set {l : List Bool} {c : Int} {x : Bool} {i : Nat} (hi : i < l.length) (h0 : 0 ≤ c) : rdOf false (l.set c.toNat x) (i : Int) = if c = i then x else rdOf false l (i : Int) := by
  unfold rdOf
  rw [Int.toNat_natCast, List.getD_eq_getElem?_getD, List.getD_eq_getElem?_getD, List.getElem?_set]
  by_cases e : c.toNat = i
  · rw [if_pos e, if_pos (by omega : c = i), if_pos (by omega)]; rfl
  · rw [if_neg e, if_neg (by omega : ¬ c = i)]
theorem rdOf_rep {n i : Nat} : rdOf false (List.replicate n false) (i : Int) = false := by
  unfold rdOf
  rw [Int.toNat_natCast, List.getD_eq_getElem?_getD, List.getElem?_replicate]
  split <;> rfl
/-- May the node v come next behind some? -/
def canNext (t : F) (beg : List Int) (v : Nat) : Bool := decide (¬ (v : Int) ∈ beg) && (decide (v = 0) || decide (t.par 0 (-1) v ∈ beg))
def nxtTo (t : F) (beg : List Int) (m : Nat) : List Int := ((List.range m).filter (canNext t beg)).map (fun v : Nat => (v : Int))
/-- The nodes that may come next behind some, ascending. -/
def nxt (t : F) (beg : List Int) : List Int := nxtTo t beg t.size
theorem nxtTo_succ (t : F) (beg : List Int) (m : Nat) : nxtTo t beg (m + 1) = if canNext t beg m = true then nxtTo t beg m ++ [(m : Int)] else nxtTo t beg m := by
  unfold nxtTo
  rw [List.range_succ, List.filter_append, List.map_append]
  by_cases h : canNext t beg m = true
  · rw [if_pos h]; simp [h]
  · rw [if_neg h]; simp [h]
theorem nxtTo_len (t : F) (beg : List Int) (m : Nat) : (nxtTo t beg m).length ≤ m := by
  unfold nxtTo
  rw [List.length_map]
  exact Nat.le_trans (List.length_filter_le _ _) (by simp)
theorem nxt_mem {t : F} {beg : List Int} {c : Int} : c ∈ nxt t beg ↔ ∃ v : Nat, c = v ∧ v < t.size ∧ canNext t beg v = true := by
  unfold nxt nxtTo
  simp only [List.mem_map, List.mem_filter, List.mem_range]
  constructor
  · rintro ⟨v, ⟨h1, h2⟩, rfl⟩; exact ⟨v, rfl, h1, h2⟩
  · rintro ⟨v, rfl, h1, h2⟩; exact ⟨v, ⟨h1, h2⟩, rfl⟩
/-- The numbers 0 to m - 1. -/
def upto (m : Nat) : List Int := each m (fun v => (v : Int))
theorem upto_mem {m : Nat} {c : Int} : c ∈ upto m ↔ 0 ≤ c ∧ c < m := by
  unfold upto each
  simp only [List.mem_map, List.mem_range]
  constructor
  · rintro ⟨v, h, rfl⟩; omega
  · rintro ⟨h0, h1⟩; exact ⟨c.toNat, by omega, by omega⟩
/-- Behind the nodes 0 to m - 1 the least that may come is m. -/
theorem nxt_upto {d : List Int} {t : F} (h : Tree d t) {m : Nat} (hm : m < t.size) : ∃ l, nxt t (upto m) = (m : Int) :: l := by
  have h0 : ∀ k, k ≤ m → nxtTo t (upto m) k = [] := by
    intro k
    induction k with
    | zero => intro _; rfl
    | succ k ih =>
      intro hk
      rw [nxtTo_succ, ih (by omega), if_neg]
      have : (k : Int) ∈ upto m := upto_mem.2 ⟨by omega, by omega⟩
      simp [canNext, this]
  have h1 : canNext t (upto m) m = true := by
    unfold canNext
    have e1 : ¬ (m : Int) ∈ upto m := fun h => by have := (upto_mem.1 h).2; omega
    rw [decide_eq_true e1, Bool.true_and]
    by_cases e : m = 0
    · rw [decide_eq_true e]; rfl
    · have := h.par_pos (c := m) (by omega) hm
      rw [decide_eq_true (upto_mem.2 this), Bool.or_true]
  have h2 : ∀ j, m + 1 + j ≤ t.size → ∃ l, nxtTo t (upto m) (m + 1 + j) = (m : Int) :: l := by
    intro j
    induction j with
    | zero =>
      intro _
      rw [Nat.add_zero, nxtTo_succ, if_pos h1, h0 m (Nat.le_refl _)]
      exact ⟨[], rfl⟩
    | succ j ih =>
      intro hj
      obtain ⟨l, e⟩ := ih (by omega)
      rw [show m + 1 + (j + 1) = m + 1 + j + 1 by omega, nxtTo_succ, e]
      split
      · exact ⟨_, rfl⟩
      · exact ⟨_, rfl⟩
  have := h2 (t.size - (m + 1)) (by omega)
  rwa [show m + 1 + (t.size - (m + 1)) = t.size by omega] at this
end Go.Proofs.Yteangdgmokkjbab.Tr
