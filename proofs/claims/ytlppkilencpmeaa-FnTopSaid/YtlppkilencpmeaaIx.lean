/- Searching lists of numbers; heavy children; the growing orders go on. Plain mathematics, no program in sight. -/
import Derived.Test.YtlppkilencpmeaaGr
namespace Go.Proofs.Ytlppkilencpmeaa.Tr
open Go.RowKit Go.Proofs.YtlppkilencpmeaaW.PrintWords
set_option linter.unusedSimpArgs false
set_option linter.unusedVariables false

/-- The first place of x in a list whose places begin with i, or -1. -/
def idx (x : Int) : List Int → Nat → Int
  | [], _ => -1
  | y :: r, i => if x = y then (i : Int) else idx x r (i + 1)
theorem idx_range (x : Int) : ∀ (l : List Int) (i : Nat), idx x l i = -1 ∨ ((i : Int) ≤ idx x l i ∧ idx x l i < ((i + l.length : Nat) : Int)) := by
  intro l
  induction l with
  | nil => intro i; exact .inl rfl
  | cons y r ih =>
    intro i
    unfold idx
    split
    · right; simp only [List.length_cons]; omega
    · rcases ih (i + 1) with h | h
      · exact .inl h
      · right; simp only [List.length_cons]; omega
theorem idx_mem (x : Int) : ∀ (l : List Int) (i : Nat), 0 ≤ idx x l i ↔ x ∈ l := by
  intro l
  induction l with
  | nil => intro i; simp [idx]
  | cons y r ih =>
    intro i
    unfold idx
    by_cases h : x = y
    · rw [if_pos h]; simp [h]
    · rw [if_neg h, ih]; simp [h]
theorem idx_get (x : Int) : ∀ (l : List Int) (i : Nat), 0 ≤ idx x l i → rd l (idx x l i - i) = x := by
  intro l
  induction l with
  | nil => intro i h; simp [idx] at h
  | cons y r ih =>
    intro i h
    unfold idx at h ⊢
    by_cases e : x = y
    · rw [if_pos e] at h ⊢
      rw [show (i : Int) - i = 0 by omega, rd_cons0, e]
    · rw [if_neg e] at h ⊢
      have h2 := ih (i + 1) h
      rcases idx_range x r (i + 1) with h3 | h3
      · omega
      · have e2 : idx x r (i + 1) - i = ((idx x r (i + 1) - ((i + 1 : Nat) : Int)).toNat : Int) + 1 := by omega
        have e3 : idx x r (i + 1) - ((i + 1 : Nat) : Int) = ((idx x r (i + 1) - ((i + 1 : Nat) : Int)).toNat : Int) := by omega
        rw [e3] at h2
        rw [e2]
        unfold rd at h2 ⊢
        rw [show ((idx x r (i + 1) - ((i + 1 : Nat) : Int)).toNat : Int) + 1 = (((idx x r (i + 1) - ((i + 1 : Nat) : Int)).toNat + 1 : Nat) : Int) by omega, Int.toNat_natCast, List.getD_cons_succ]
        rw [Int.toNat_natCast] at h2
        exact h2
end Go.Proofs.Ytlppkilencpmeaa.Tr
