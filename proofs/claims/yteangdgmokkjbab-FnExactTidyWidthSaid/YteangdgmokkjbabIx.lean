/- Searching lists of numbers; heavy children; the growing orders go on. Plain mathematics, no program in sight. -/
import Derived.Test.YteangdgmokkjbabGr
namespace Go.Proofs.Yteangdgmokkjbab.Tr
open Go.RowKit Go.Proofs.YteangdgmokkjbabW.PrintWords
set_option linter.unusedSimpArgs false
set_option linter.unusedVariables false

/-- The first place of x in a list whose places begin with i, or -1. -/
def idx (x : Int) : List Int → Nat → Int
  | [], _ => -1
  | y :: r, i => if x = y then (i : Int) else idx x r (i + 1)
theorem idx_range (x : Int) : ∀ (l : List Int) (i : Nat), idx x l i = -1 ∨ ((i : Int) ≤ idx x l i ∧ idx x l i < ((i + l.length : Nat) : Int)) := by
  intro l
  induction l with
  | nil => intro i; exact .inl rfl
  | cons y r ih =>
    intro i
    unfold idx
    split
    · right; simp only [List.length_cons]; omega
    · rcases ih (i + 1) with h | h
      · exact .inl h
      · right; simp only [List.length_cons]; omega
theorem idx_mem (x : Int) : ∀ (l : List Int) (i : Nat), 0 ≤ idx x l i ↔ x ∈ l := by
  intro l
  induction l with
  | nil => intro i; simp [idx]
  | cons y r ih =>
    intro i
    unfold idx
    by_cases h : x = y
    · rw [if_pos h]; simp [h]
    · rw [if_neg h, ih]; simp [h]
theorem idx_shift (x : Int) : ∀ (l : List Int) (i j : Nat), idx x l (i + j) = if 0 ≤ idx x l i then idx x l i + j else -1 := by
  intro l
  induction l with
  | nil => intro i j; simp [idx]
  | cons y r ih =>
    intro i j
    unfold idx
    by_cases h : x = y
    · rw [if_pos h, if_pos h, if_pos (by omega)]; omega
    · rw [if_neg h, if_neg h]
      have := ih (i + 1) j
      rw [show i + 1 + j = i + j + 1 by omega] at this
      exact this
theorem idx_get (x : Int) : ∀ (l : List Int) (i : Nat), 0 ≤ idx x l i → rd l (idx x l i - i) = x := by
  intro l
  induction l with
  | nil => intro i h; simp [idx] at h
  | cons y r ih =>
    intro i h
    unfold idx at h ⊢
    by_cases e : x = y
    · rw [if_pos e] at h ⊢
      rw [show (i : Int) - i = 0 by omega, rd_cons0, e]
    · rw [if_neg e] at h ⊢
      have h2 := ih (i + 1) h
      rcases idx_range x r (i + 1) with h3 | h3
      · omega
      · have e2 : idx x r (i + 1) - i = ((idx x r (i + 1) - ((i + 1 : Nat) : Int)).toNat : Int) + 1 := by omega
        have e3 : idx x r (i + 1) - ((i + 1 : Nat) : Int) = ((idx x r (i + 1) - ((i + 1 : Nat) : Int)).toNat : Int) := by omega
        rw [e3] at h2
        rw [e2]
        unfold rd at h2 ⊢
        rw [show ((idx x r (i + 1) - ((i + 1 : Nat) : Int)).toNat : Int) + 1 = (((idx x r (i + 1) - ((i + 1 : Nat) : Int)).toNat + 1 : Nat) : Int) by omega, Int.toNat_natCast, List.getD_cons_succ]
        rw [Int.toNat_natCast] at h2
        exact h2
/-- All numbers below n stand in no shorter list. -/
theorem pigeon : ∀ (n : Nat) (l : List Int), (∀ v : Nat, v < n → (v : Int) ∈ l) → n ≤ l.length := by
  intro n
  induction n with
  | zero => intro l _; omega
  | succ n ih =>
    intro l h
    have h1 := h n (by omega)
    have h2 := ih (l.erase (n : Int)) (fun v hv => (List.mem_erase_of_ne (by omega)).2 (h v (by omega)))
    rw [List.length_erase_of_mem h1] at h2
    have := List.length_pos_of_mem h1
    omega
theorem nxt_pos {d : List Int} {t : F} (h : Tree d t) {beg : List Int} (hb : beg.length < t.size) : 1 ≤ (nxt t beg).length := by
  have hex : ∃ v : Nat, v < t.size ∧ ¬ (v : Int) ∈ beg := by
    apply Classical.byContradiction
    intro hn
    have := pigeon t.size beg (fun v hv => Classical.byContradiction fun h' => hn ⟨v, hv, h'⟩)
    omega
  have hl : ∀ m v : Nat, v < m → v < t.size → ¬ (v : Int) ∈ beg → ∃ u : Nat, u < t.size ∧ canNext t beg u = true := by
    intro m
    induction m with
    | zero => intro v hv; omega
    | succ m ih =>
      intro v hv hs hm
      by_cases e : v = 0
      · exact ⟨v, hs, by simp [canNext, hm, e]; subst e; simpa using hm⟩
      · have hp := h.par_pos (c := v) (by omega) hs
        by_cases hq : t.par 0 (-1) v ∈ beg
        · exact ⟨v, hs, by simp [canNext, hm, e, hq]⟩
        · exact ih (t.par 0 (-1) v).toNat (by omega) (by omega) (by rw [Int.toNat_of_nonneg hp.1]; exact hq)
  obtain ⟨v, hv, hm⟩ := hex
  obtain ⟨u, hu, hc⟩ := hl (v + 1) v (by omega) hv hm
  exact List.length_pos_of_mem (nxt_mem.2 ⟨u, rfl, hu, hc⟩)
theorem F.best_mem : ∀ (g : F) (p : Nat) (cur s : Int), g.best p cur s = cur ∨ g.best p cur s ∈ g.roots p := by
  intro g
  induction g with
  | nil => intro p cur s; exact .inl rfl
  | cons b n _ hn =>
    intro p cur s
    unfold F.best F.roots
    split
    · rcases hn (p + 1 + b.size) p ((1 + b.size : Nat) : Int) with h | h
      · rw [h]; exact .inr (List.mem_cons_self ..)
      · exact .inr (List.mem_cons_of_mem _ h)
    · rcases hn (p + 1 + b.size) cur s with h | h
      · exact .inl h
      · exact .inr (List.mem_cons_of_mem _ h)
/-- A node is a heavy child just where it is that of its parent. -/
theorem heavy_iff {d : List Int} {t : F} (h : Tree d t) {v : Nat} (h1 : 1 ≤ v) (hv : v < t.size) : (v : Int) ∈ heavyL t ↔ rd (heavyL t) (t.par 0 (-1) v) = v := by
  have hp := h.par_pos h1 hv
  obtain ⟨q, hq⟩ : ∃ q : Nat, t.par 0 (-1) v = (q : Int) := ⟨(t.par 0 (-1) v).toNat, by omega⟩
  rw [hq]
  unfold heavyL
  rw [each_rd (by omega)]
  constructor
  · intro hm
    unfold each at hm
    simp only [List.mem_map, List.mem_range] at hm
    obtain ⟨u, hu, e⟩ := hm
    have hb := F.best_mem (t.sub u) (u + 1) (-1) 0
    rw [e] at hb
    rcases hb with hb | hb
    · omega
    · have := (h.kids hu hv).1 hb
      rw [hq] at this
      have e2 : q = u := by omega
      rw [e2]; exact e
  · intro e
    unfold each
    simp only [List.mem_map, List.mem_range]
    exact ⟨q, by omega, e⟩
end Go.Proofs.Yteangdgmokkjbab.Tr
