/- Heavy paths: from a light node down the heavy children. Plain mathematics, no program in sight. -/
import Derived.Test.YtlppkilencpmeaaIx
namespace Go.Proofs.Ytlppkilencpmeaa.Tr
open Go.RowKit Go.Proofs.YtlppkilencpmeaaW.PrintWords
set_option linter.unusedSimpArgs false
set_option linter.unusedVariables false

theorem heavy_rd {d : List Int} {t : F} (h : Tree d t) {v : Nat} (hv : v < t.size) : rd (heavyL t) (v : Int) = -1 ∨ ((v : Int) < rd (heavyL t) (v : Int) ∧ rd (heavyL t) (v : Int) < t.size) := by
  have e : rd (heavyL t) (v : Int) = (t.sub v).best (v + 1) (-1) 0 := each_rd hv
  rw [e]
  rcases F.best_mem (t.sub v) (v + 1) (-1) 0 with q | q
  · exact .inl q
  · exact .inr (h.kid_range hv q)
theorem heavy_zero {d : List Int} {t : F} (h : Tree d t) : ¬ (0 : Int) ∈ heavyL t := by
  intro hm
  unfold heavyL each at hm
  simp only [List.mem_map, List.mem_range] at hm
  obtain ⟨v, hv, e⟩ := hm
  have e2 : rd (heavyL t) (v : Int) = (t.sub v).best (v + 1) (-1) 0 := each_rd hv
  rcases heavy_rd h hv with q | q
  · rw [e2, e] at q; omega
  · rw [e2, e] at q; omega
/-- The path from a node on. -/
def hpath (H : List Int) : Nat → Int → List Int
  | 0, _ => []
  | m + 1, w => if w < 0 then [] else w :: hpath H m (rd H w)
theorem hpath_neg (H : List Int) (m : Nat) {w : Int} (h : w < 0) : hpath H m w = [] := by
  cases m with
  | zero => rfl
  | succ m => rw [hpath, if_pos h]
theorem hpath_len (H : List Int) : ∀ m w, (hpath H m w).length ≤ m := by
  intro m
  induction m with
  | zero => intro w; simp [hpath]
  | succ m ih =>
    intro w
    unfold hpath
    split
    · simp
    · simp only [List.length_cons]; have := ih (rd H w); omega
def hpaths (t : F) : Nat → Nat → List (List Int) → List (List Int)
  | 0, _, out => out
  | m + 1, v, out => if (v : Int) ∈ heavyL t then hpaths t m (v + 1) out else hpaths t m (v + 1) (out ++ [hpath (heavyL t) (t.size + 1) (v : Int)])
theorem hpaths_len (t : F) : ∀ m v out, (hpaths t m v out).length ≤ out.length + m := by
  intro m
  induction m with
  | zero => intro v out; simp [hpaths]
  | succ m ih =>
    intro v out
    unfold hpaths
    split
    · have := ih (v + 1) out; omega
    · have := ih (v + 1) (out ++ [hpath (heavyL t) (t.size + 1) (v : Int)]); simp at this; omega
theorem hpaths_rows (t : F) : ∀ m v out, (∀ x ∈ out, x.length ≤ t.size + 1) → ∀ x ∈ hpaths t m v out, x.length ≤ t.size + 1 := by
  intro m
  induction m with
  | zero => intro v out h; simpa [hpaths] using h
  | succ m ih =>
    intro v out h
    unfold hpaths
    split
    · exact ih (v + 1) out h
    · refine ih (v + 1) _ ?_
      intro x hx
      simp only [List.mem_append, List.mem_singleton] at hx
      rcases hx with hx | rfl
      · exact h x hx
      · exact hpath_len _ _ _
end Go.Proofs.Ytlppkilencpmeaa.Tr
