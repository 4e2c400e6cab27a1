/- Searching lists of numbers; heavy children; the growing orders go on. Plain mathematics, no program in sight. -/
import Derived.Test.YtlppkilencpmeaaGr
namespace Go.Proofs.Ytlppkilencpmeaa.Tr
open Go.RowKit Go.Proofs.YtlppkilencpmeaaW.PrintWords
set_option linter.unusedSimpArgs false
set_option linter.unusedVariables false

/-- The first place of x in a list whose places begin with i, or -1. -/
def idx (x : Int) : List Int → Nat → Int
  | [], _ => -1
  | y :: r, i => if x = y then (i : Int) else idx x r (i + 1)
theorem idx_mem (x : Int) : ∀ (l : List Int) (i : Nat), 0 ≤ idx x l i ↔ x ∈ l := by
  intro l
  induction l with
  | nil => intro i; simp [idx]
  | cons y r ih =>
    intro i
    unfold idx
    by_cases h : x = y
    · rw [if_pos h]; simp [h]
    · rw [if_neg h, ih]; simp [h]
theorem F.best_mem : ∀ (g : F) (p : Nat) (cur s : Int), g.best p cur s = cur ∨ g.best p cur s ∈ g.roots p := by
  intro g
  induction g with
  | nil => intro p cur s; exact .inl rfl
  | cons b n _ hn =>
    intro p cur s
    unfold F.best F.roots
    split
    · rcases hn (p + 1 + b.size) p ((1 + b.size : Nat) : Int) with h | h
      · rw [h]; exact .inr (List.mem_cons_self ..)
      · exact .inr (List.mem_cons_of_mem _ h)
    · rcases hn (p + 1 + b.size) cur s with h | h
      · exact .inl h
      · exact .inr (List.mem_cons_of_mem _ h)
/-- A node is a heavy child just where it is that of its parent. -/
theorem heavy_iff {d : List Int} {t : F} (h : Tree d t) {v : Nat} (h1 : 1 ≤ v) (hv : v < t.size) : (v : Int) ∈ heavyL t ↔ rd (heavyL t) (t.par 0 (-1) v) = v := by
  have hp := h.par_pos h1 hv
  obtain ⟨q, hq⟩ : ∃ q : Nat, t.par 0 (-1) v = (q : Int) := ⟨(t.par 0 (-1) v).toNat, by omega⟩
  rw [hq]
  unfold heavyL
  rw [each_rd (by omega)]
  constructor
  · intro hm
    unfold each at hm
    simp only [List.mem_map, List.mem_range] at hm
    obtain ⟨u, hu, e⟩ := hm
    have hb := F.best_mem (t.sub u) (u + 1) (-1) 0
    rw [e] at hb
    rcases hb with hb | hb
    · omega
    · have := (h.kids hu hv).1 hb
      rw [hq] at this
      have e2 : q = u := by omega
      rw [e2]; exact e
  · intro e
    unfold each
    simp only [List.mem_map, List.mem_range]
    exact ⟨q, by omega, e⟩
end Go.Proofs.Ytlppkilencpmeaa.Tr
