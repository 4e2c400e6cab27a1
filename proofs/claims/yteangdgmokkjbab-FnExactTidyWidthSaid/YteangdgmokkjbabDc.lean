/- The decreasing tree of a list of different numbers, as a text; sorted lists without a number twice. Plain mathematics, no program in sight. -/
import Derived.Test.YteangdgmokkjbabIx
import Derived.Lib.SlicesCompact
namespace Go.Proofs.Yteangdgmokkjbab.Tr
open Go.RowKit Go.Proofs.YteangdgmokkjbabW.PrintWords
set_option linter.unusedSimpArgs false
set_option linter.unusedVariables false

/-- The place of the first greatest number: from place i on, b the best so far. -/
def amx (l : List Int) : Nat → Nat → Nat → Nat
  | 0, _, b => b
  | m + 1, i, b => if rd l (i : Int) > rd l (b : Int) then amx l m (i + 1) i else amx l m (i + 1) b
theorem amx_spec (l : List Int) : ∀ (m i b : Nat), b < i → (∀ j : Nat, j < b → rd l (j : Int) < rd l (b : Int)) → (∀ j : Nat, j < i → rd l (j : Int) ≤ rd l (b : Int)) →
    amx l m i b < i + m ∧ ∀ j : Nat, j < amx l m i b → rd l (j : Int) < rd l (amx l m i b : Int) := by
  intro m
  induction m with
  | zero => intro i b hb h1 h2; exact ⟨by simpa [amx] using hb, by simpa [amx] using h1⟩
  | succ m ih =>
    intro i b hb h1 h2
    unfold amx
    by_cases h : rd l (i : Int) > rd l (b : Int)
    · rw [if_pos h]
      have := ih (i + 1) i (by omega) (fun j hj => by have := h2 j hj; omega) (fun j hj => by
        rcases Nat.lt_or_ge j i with q | q
        · have := h2 j q; omega
        · have : j = i := by omega
          subst this; omega)
      exact ⟨by omega, this.2⟩
    · rw [if_neg h]
      have := ih (i + 1) b (by omega) h1 (fun j hj => by
        rcases Nat.lt_or_ge j i with q | q
        · exact h2 j q
        · have : j = i := by omega
          subst this; omega)
      exact ⟨by omega, this.2⟩
def amax (l : List Int) : Nat := amx l (l.length - 1) 1 0
theorem amax_spec {l : List Int} (h : 1 ≤ l.length) : amax l < l.length ∧ ∀ j : Nat, j < amax l → rd l (j : Int) < rd l (amax l : Int) := by
  have := amx_spec l (l.length - 1) 1 0 (by omega) (fun j hj => by omega) (fun j hj => by
    have : j = 0 := by omega
    subst this; exact Int.le_refl _)
  exact ⟨by unfold amax; omega, this.2⟩
theorem idx_amax {l : List Int} (h : 1 ≤ l.length) : idx (rd l (amax l : Int)) l 0 = (amax l : Int) := by
  obtain ⟨h1, h2⟩ := amax_spec h
  have hx : rd l (amax l : Int) = l[amax l] := rd_getElem h1
  have hs : l = l.take (amax l) ++ rd l (amax l : Int) :: l.drop (amax l + 1) := by
    rw [hx, ← List.drop_eq_getElem_cons h1, List.take_append_drop]
  have hn : rd l (amax l : Int) ∉ l.take (amax l) := by
    intro hm
    obtain ⟨j, hj, e⟩ := List.mem_iff_getElem.mp hm
    have hj' : j < amax l := by simp at hj; omega
    have := h2 j hj'
    rw [rd_getElem (by omega : j < l.length)] at this
    rw [List.getElem_take] at e
    omega
  have hg : ∀ (x : Int) (a b : List Int) (i : Nat), x ∉ a → idx x (a ++ x :: b) i = ((i + a.length : Nat) : Int) := by
    intro x a
    induction a with
    | nil => intro b i _; simp [idx]
    | cons y a ih =>
      intro b i hn
      simp only [List.mem_cons, not_or] at hn
      simp only [List.cons_append, idx, if_neg hn.1, List.length_cons]
      rw [ih b (i + 1) hn.2]; omega
  have := hg _ _ (l.drop (amax l + 1)) 0 hn
  rw [← hs] at this
  rw [this]; simp; omega
/-- The text: 1, the text of what lies before the greatest, the text of what lies behind it; 0 for nothing. -/
def dect : Nat → List Int → ByteArray
  | 0, _ => ⟨#[48]⟩
  | n + 1, l => if l.length = 0 then ⟨#[48]⟩ else (⟨#[49]⟩ ++ dect n (l.take (amax l))) ++ dect n (l.drop (amax l + 1))
theorem dect_size : ∀ (n : Nat) (l : List Int), (dect n l).size ≤ 2 * l.length + 1 := by
  intro n
  induction n with
  | zero => intro l; show 1 ≤ _; omega
  | succ n ih =>
    intro l
    unfold dect
    split
    · show 1 ≤ _; omega
    · rename_i h
      have h1 := ih (l.take (amax l))
      have h2 := ih (l.drop (amax l + 1))
      have h3 := (amax_spec (l := l) (by omega)).1
      rw [ByteArray.size_append, ByteArray.size_append]
      have : (⟨#[49]⟩ : ByteArray).size = 1 := rfl
      simp only [List.length_take, List.length_drop] at h1 h2
      omega
def msort' (l : List Int) : List Int := l.mergeSort fun x y => decide (x ≤ y)
theorem msort'_len (l : List Int) : (msort' l).length = l.length := List.length_mergeSort _
theorem msort'_perm (l : List Int) : (msort' l).Perm l := List.mergeSort_perm _ _
theorem msort'_sorted (l : List Int) : (msort' l).Pairwise (fun x y => x ≤ y) := by
  have := List.pairwise_mergeSort (le := fun x y : Int => decide (x ≤ y)) (by intro a b c; simp; omega) (by intro a b; simp; omega) l
  exact this.imp (by intro a b h; simpa using h)
/-- A sorted list loses nothing where no number stands in it twice. -/
theorem compact_full {s : List Int} (hs : s.Pairwise (fun x y => x ≤ y)) : (Lib.compact s).length = s.length ↔ s.Nodup := by
  have e1 : (Lib.compact s).length = ((List.range s.length).filter (Lib.keeps s.toArray)).length := by
    simp [Lib.compact, Lib.compactUpTo]
  have e2 : ((List.range s.length).filter (Lib.keeps s.toArray)).length = s.length ↔ ∀ j, j < s.length → Lib.keeps s.toArray j = true := by
    have := List.length_filter_eq_length_iff (p := Lib.keeps s.toArray) (l := List.range s.length)
    rw [List.length_range] at this
    rw [this]
    simp
  rw [e1, e2]
  have hg : ∀ j, j < s.length → (s.toArray)[j]! = s.getD j 0 := by
    intro j hj; simp [hj]
  rw [List.pairwise_iff_getElem] at hs
  constructor
  · intro h
    show s.Pairwise _
    rw [List.pairwise_iff_getElem]
    intro i j hi hj hij e
    have hk := h j hj
    unfold Lib.keeps at hk
    rw [decide_eq_true_eq] at hk
    rcases hk with hk | hk
    · omega
    · rw [hg j hj, hg (j - 1) (by omega)] at hk
      have h1 : s.getD j 0 = s[j] := by simp [hj]
      have h2 : s.getD (j - 1) 0 = s[j - 1] := by rw [List.getD_eq_getElem?_getD, List.getElem?_eq_getElem (by omega)]; rfl
      rw [h1, h2] at hk
      have h3 := hs (j - 1) j (by omega) hj (by omega)
      have h4 : s[i] ≤ s[j - 1] := by
        rcases Nat.lt_or_ge i (j - 1) with q | q
        · exact hs i (j - 1) hi (by omega) q
        · have : i = j - 1 := by omega
          subst this; exact Int.le_refl _
      omega
  · intro h j hj
    unfold Lib.keeps
    rw [decide_eq_true_eq]
    by_cases h0 : j = 0
    · exact .inl h0
    · right
      rw [hg j hj, hg (j - 1) (by omega)]
      have h1 : s.getD j 0 = s[j] := by simp [hj]
      have h2 : s.getD (j - 1) 0 = s[j - 1] := by rw [List.getD_eq_getElem?_getD, List.getElem?_eq_getElem (by omega)]; rfl
      rw [h1, h2]
      have h3 : s.Pairwise _ := h
      rw [List.pairwise_iff_getElem] at h3
      have := h3 (j - 1) j (by omega) hj (by omega)
      exact fun e => this e.symm
theorem nodup_rd {l : List Int} : l.Nodup ↔ ∀ a : Nat, a < l.length → ∀ b : Nat, b < a → rd l (a : Int) ≠ rd l (b : Int) := by
  show l.Pairwise _ ↔ _
  rw [List.pairwise_iff_getElem]
  constructor
  · intro h a ha b hb
    rw [rd_getElem ha, rd_getElem (by omega : b < l.length)]
    exact fun e => h b a (by omega) ha hb e.symm
  · intro h i j hi hj hij
    have := h j hj i hij
    rw [rd_getElem hj, rd_getElem hi] at this
    exact fun e => this e.symm
end Go.Proofs.Yteangdgmokkjbab.Tr
