/- The nodes of a plane tree: what is below a node, its parent, its depth. Plain mathematics, no program in sight. -/
import Derived.Test.YtlppkilencpmeaaTr
namespace Go.Proofs.Ytlppkilencpmeaa.Tr
open Go.RowKit Go.Proofs.YtlppkilencpmeaaW.PrintWords
set_option linter.unusedSimpArgs false
set_option linter.unusedVariables false

namespace F
/-- What is below the node number v. -/
def sub : F → Nat → F
  | nil, _ => nil
  | cons b n, v => if v = 0 then b else if v < 1 + b.size then b.sub (v - 1) else n.sub (v - 1 - b.size)
/-- The parent of the node at the place c, of a list of trees from the place p on whose roots have the parent q. -/
def par : F → Nat → Int → Nat → Int
  | nil, _, q, _ => q
  | cons b n, p, q, c => if c = p then q else if c < p + 1 + b.size then b.par (p + 1) p c else n.par (p + 1 + b.size) q c
theorem sub_zero (b n : F) : (cons b n).sub 0 = b := by simp [sub]
theorem sub_left {b n : F} {v : Nat} (h0 : 1 ≤ v) (h : v < 1 + b.size) : (cons b n).sub v = b.sub (v - 1) := by
  rw [sub, if_neg (by omega), if_pos h]
theorem sub_right {b n : F} {v : Nat} (h : 1 + b.size ≤ v) : (cons b n).sub v = n.sub (v - 1 - b.size) := by
  rw [sub, if_neg (by omega), if_neg (by omega)]
theorem sub_fits : ∀ (g : F) (v : Nat), v < g.size → v + 1 + (g.sub v).size ≤ g.size := by
  intro g
  induction g with
  | nil => intro v h; simp [size] at h
  | cons b n hb hn =>
    intro v h
    simp only [size] at h ⊢
    by_cases h0 : v = 0
    · subst h0; rw [sub_zero]; omega
    · by_cases h1 : v < 1 + b.size
      · rw [sub_left (by omega) h1]
        have := hb (v - 1) (by omega); omega
      · rw [sub_right (by omega)]
        have := hn (v - 1 - b.size) (by omega); omega
theorem par_range : ∀ (g : F) (p : Nat) (q : Int) (c : Nat), p ≤ c → c < p + g.size → g.par p q c = q ∨ ((p : Int) ≤ g.par p q c ∧ g.par p q c < c) := by
  intro g
  induction g with
  | nil => intro p q c h1 h2; simp [size] at h2; omega
  | cons b n hb hn =>
    intro p q c h1 h2
    simp only [size] at h2
    rw [par]
    by_cases e : c = p
    · rw [if_pos e]; exact .inl rfl
    · rw [if_neg e]
      by_cases h3 : c < p + 1 + b.size
      · rw [if_pos h3]
        rcases hb (p + 1) p c (by omega) h3 with h | h
        · rw [h]; omega
        · omega
      · rw [if_neg h3]
        rcases hn (p + 1 + b.size) q c (by omega) (by omega) with h | h
        · exact .inl h
        · omega
theorem roots_range : ∀ (g : F) (p : Nat) (c : Int), c ∈ g.roots p → (p : Int) ≤ c ∧ c < p + g.size := by
  intro g
  induction g with
  | nil => intro p c h; simp [roots] at h
  | cons b n hb hn =>
    intro p c h
    simp only [roots, List.mem_cons] at h
    simp only [size]
    rcases h with rfl | h
    · omega
    · have := hn _ _ h; omega
theorem roots_par : ∀ (g : F) (p : Nat) (q : Int) (c : Nat), q < p → p ≤ c → c < p + g.size → ((c : Int) ∈ g.roots p ↔ g.par p q c = q) := by
  intro g
  induction g with
  | nil => intro p q c hq h1 h2; simp [size] at h2; omega
  | cons b n hb hn =>
    intro p q c hq h1 h2
    simp only [size] at h2
    rw [par, roots, List.mem_cons]
    by_cases e : c = p
    · rw [if_pos e]; simp [e]
    · rw [if_neg e]
      by_cases h3 : c < p + 1 + b.size
      · rw [if_pos h3]
        constructor
        · rintro (h | h)
          · omega
          · have := roots_range _ _ _ h; omega
        · intro h
          rcases par_range b (p + 1) p c (by omega) h3 with h' | h' <;> omega
      · rw [if_neg h3]
        have := hn (p + 1 + b.size) q c (by omega) (by omega) (by omega)
        rw [← this]
        constructor
        · rintro (h | h)
          · omega
          · exact h
        · exact fun h => .inr h
/-- The children of a node are those that have it as their parent. -/
theorem kids_par : ∀ (g : F) (p : Nat) (q : Int) (v c : Nat), q < p → p ≤ v → v < p + g.size → p ≤ c → c < p + g.size →
    ((c : Int) ∈ (g.sub (v - p)).roots (v + 1) ↔ g.par p q c = v) := by
  intro g
  induction g with
  | nil => intro p q v c hq h1 h2; simp [size] at h2; omega
  | cons b n hb hn =>
    intro p q v c hq h1 h2 h3 h4
    simp only [size] at h2 h4
    rw [par]
    by_cases ev : v = p
    · subst ev
      rw [Nat.sub_self, sub_zero]
      by_cases e : c = v
      · rw [if_pos e]
        constructor
        · intro h; have := roots_range _ _ _ h; omega
        · intro h; omega
      · rw [if_neg e]
        by_cases h5 : c < v + 1 + b.size
        · rw [if_pos h5]; exact roots_par b (v + 1) v c (by omega) (by omega) h5
        · rw [if_neg h5]
          constructor
          · intro h; have := roots_range _ _ _ h; omega
          · intro h
            rcases par_range n (v + 1 + b.size) q c (by omega) (by omega) with h' | h' <;> omega
    · by_cases hv : v < p + 1 + b.size
      · rw [sub_left (by omega) (by omega), show v - p - 1 = v - (p + 1) by omega]
        by_cases e : c = p
        · rw [if_pos e]
          constructor
          · intro h; have := roots_range _ _ _ h; omega
          · intro h; omega
        · rw [if_neg e]
          by_cases h5 : c < p + 1 + b.size
          · rw [if_pos h5]; exact hb (p + 1) p v c (by omega) (by omega) (by omega) (by omega) h5
          · rw [if_neg h5]
            constructor
            · intro h
              have := roots_range _ _ _ h
              have := sub_fits b (v - (p + 1)) (by omega)
              omega
            · intro h
              rcases par_range n (p + 1 + b.size) q c (by omega) (by omega) with h' | h' <;> omega
      · rw [sub_right (by omega), show v - p - 1 - b.size = v - (p + 1 + b.size) by omega]
        by_cases e : c = p
        · rw [if_pos e]
          constructor
          · intro h; have := roots_range _ _ _ h; omega
          · intro h; omega
        · rw [if_neg e]
          by_cases h5 : c < p + 1 + b.size
          · rw [if_pos h5]
            constructor
            · intro h; have := roots_range _ _ _ h; omega
            · intro h
              rcases par_range b (p + 1) p c (by omega) h5 with h' | h' <;> omega
          · rw [if_neg h5]; exact hn (p + 1 + b.size) q v c (by omega) (by omega) (by omega) (by omega) (by omega)
theorem par_self {p : Nat} {b n : F} {q : Int} : (cons b n).par p q p = q := by simp [par]
end F

/-- The node at a place, told by its number. -/
theorem Pl.nth : ∀ {g : F} {d : List Int} {p : Nat} (_ : Pl d p g) (v : Nat), v < g.size → ∃ n, Pl d (p + v) (.cons (g.sub v) n) := by
  intro g
  induction g with
  | nil => intro d p h v h2; simp [F.size] at h2
  | cons b n hb hn =>
    intro d p h v h2
    simp only [F.size] at h2
    by_cases e : v = 0
    · subst e; rw [F.sub_zero]; exact ⟨n, h⟩
    · by_cases h3 : v < 1 + b.size
      · rw [F.sub_left (by omega) h3]
        obtain ⟨m, hm⟩ := hb h.below (v - 1) (by omega)
        exact ⟨m, by rw [show p + v = p + 1 + (v - 1) by omega]; exact hm⟩
      · rw [F.sub_right (by omega)]
        obtain ⟨m, hm⟩ := hn h.next (v - 1 - b.size) (by omega)
        exact ⟨m, by rw [show p + v = p + 1 + b.size + (v - 1 - b.size) by omega]; exact hm⟩

/-- A tree: all about its nodes. -/
structure Tree (d : List Int) (t : F) : Prop where
  enc : d = t.enc
  one : ∃ b, t = .cons b .nil
  few : t.size ≤ 24
theorem Tree.of {d : List Int} (h : isT d = true) : ∃ t, Tree d t := by
  obtain ⟨b, rfl, hb, _, _⟩ := isT_at h
  exact ⟨.cons b .nil, rfl, ⟨b, rfl⟩, by simp only [F.size]; omega⟩
theorem isT_cases (d : List Int) : isT d = false ∨ ∃ t, Tree d t := by
  cases h : isT d with
  | false => exact .inl rfl
  | true => exact .inr (Tree.of h)
namespace Tree
variable {d : List Int} {t : F}
theorem isT (h : Tree d t) : isT d = true := by
  obtain ⟨rfl, ⟨b, rfl⟩, hf⟩ := h
  exact (isT_iff _).2 ⟨b, rfl, by simp only [F.size] at hf; omega⟩
theorem len (h : Tree d t) : d.length = t.size := by rw [h.enc, F.enc_len]
theorem le (h : Tree d t) : d.length ≤ 24 := by rw [h.len]; exact h.few
theorem pos (h : Tree d t) : 1 ≤ t.size := by obtain ⟨_, ⟨b, rfl⟩, _⟩ := h; simp only [F.size]; omega
theorem pl (h : Tree d t) : Pl d 0 t := by rw [h.enc]; exact Pl.whole _
theorem node (h : Tree d t) {v : Nat} (hv : v < t.size) : ∃ n, Pl d v (.cons (t.sub v) n) := by
  have := h.pl.nth v hv
  rwa [Nat.zero_add] at this
theorem deg (h : Tree d t) {v : Nat} (hv : v < t.size) : rd d (v : Int) = (t.sub v).len := by
  obtain ⟨n, hp⟩ := h.node hv
  exact hp.deg
theorem fits (h : Tree d t) {v : Nat} (hv : v < t.size) : v + 1 + (t.sub v).size ≤ t.size := F.sub_fits t v hv
theorem par_zero (h : Tree d t) : t.par 0 (-1) 0 = -1 := by obtain ⟨_, ⟨b, rfl⟩, _⟩ := h; exact F.par_self
theorem par_pos (h : Tree d t) {c : Nat} (h1 : 1 ≤ c) (hc : c < t.size) : 0 ≤ t.par 0 (-1) c ∧ t.par 0 (-1) c < c := by
  obtain ⟨rfl, ⟨b, rfl⟩, _⟩ := h
  simp only [F.size] at hc
  rw [F.par, if_neg (by omega), if_pos (by omega)]
  rcases F.par_range b (0 + 1) ((0 : Nat) : Int) c (by omega) (by omega) with h' | h' <;> omega
theorem par_lt (h : Tree d t) {c : Nat} (hc : c < t.size) : -1 ≤ t.par 0 (-1) c ∧ t.par 0 (-1) c < c := by
  by_cases e : c = 0
  · subst e; rw [h.par_zero]; omega
  · have := h.par_pos (c := c) (by omega) hc; omega
theorem kids (h : Tree d t) {v c : Nat} (hv : v < t.size) (hc : c < t.size) : (c : Int) ∈ (t.sub v).roots (v + 1) ↔ t.par 0 (-1) c = v := by
  have := F.kids_par t 0 (-1) v c (by omega) (by omega) (by omega) (by omega) (by omega)
  rwa [Nat.sub_zero] at this
theorem kid_range (h : Tree d t) {v : Nat} (hv : v < t.size) {c : Int} (hc : c ∈ (t.sub v).roots (v + 1)) : (v : Int) < c ∧ c < t.size := by
  have h1 := F.roots_range _ _ _ hc
  have h2 := h.fits hv
  omega
end Tree
/-- A value for each node. -/
def each (n : Nat) (f : Nat → Int) : List Int := (List.range n).map f
theorem each_len (n : Nat) (f : Nat → Int) : (each n f).length = n := by simp [each]
theorem each_rd {n : Nat} {f : Nat → Int} {v : Nat} (h : v < n) : rd (each n f) (v : Int) = f v := by
  rw [rd_getElem (by rw [each_len]; exact h)]
  simp [each]
theorem each_succ (n : Nat) (f : Nat → Int) : each (n + 1) f = each n f ++ [f n] := by simp [each, List.range_succ]
theorem each_eq {n : Nat} {f : Nat → Int} {l : List Int} (hl : l.length = n) (h : ∀ v, v < n → rd l (v : Int) = f v) : l = each n f := by
  apply List.ext_getElem
  · rw [each_len, hl]
  · intro i h1 h2
    have := h i (by omega)
    rw [rd_getElem h1] at this
    rw [this]; simp [each]
/-- One number stored at several places. -/
def setAll (out : List Int) (l : List Int) (v : Int) : List Int := l.foldl (fun o c => o.set c.toNat v) out
theorem setAll_len (l : List Int) (v : Int) : ∀ out, (setAll out l v).length = out.length := by
  induction l with
  | nil => intro out; rfl
  | cons c l ih => intro out; simp only [setAll, List.foldl_cons]; exact (ih _).trans (by simp)
theorem rd_set {l : List Int} {c : Int} {x : Int} {i : Nat} (hi : i < l.length) (h0 : 0 ≤ c) : rd (l.set c.toNat x) (i : Int) = if c = i then x else rd l (i : Int) := by
  rw [rd_getElem (by simpa using hi), rd_getElem hi, List.getElem_set]
  by_cases e : c.toNat = i
  · rw [if_pos e, if_pos (by omega)]
  · rw [if_neg e, if_neg (by omega)]
theorem setAll_rd (v : Int) : ∀ (l : List Int) (out : List Int) (i : Nat), (∀ c ∈ l, 0 ≤ c) → i < out.length → rd (setAll out l v) (i : Int) = if (i : Int) ∈ l then v else rd out (i : Int) := by
  intro l
  induction l with
  | nil => intro out i _ _; simp [setAll]
  | cons c l ih =>
    intro out i h0 hi
    have h1 := ih (out.set c.toNat v) i (fun x hx => h0 x (List.mem_cons_of_mem _ hx)) (by simpa using hi)
    simp only [setAll, List.foldl_cons] at h1 ⊢
    rw [h1, rd_set hi (h0 c (List.mem_cons_self ..))]
    by_cases e : (i : Int) ∈ l
    · rw [if_pos e, if_pos (List.mem_cons_of_mem _ e)]
    · rw [if_neg e]
      by_cases e2 : c = i
      · rw [if_pos e2, if_pos (by rw [e2]; exact List.mem_cons_self ..)]
      · rw [if_neg e2, if_neg (by simp only [List.mem_cons, not_or]; exact ⟨fun h => e2 h.symm, e⟩)]
/-- The heavy child, of the trees from the place p on, if that so far is cur, with the size s. -/
def F.best : F → Nat → Int → Int → Int
  | .nil, _, cur, _ => cur
  | .cons b n, p, cur, s => if s < ((1 + b.size : Nat) : Int) then n.best (p + 1 + b.size) p ((1 + b.size : Nat) : Int) else n.best (p + 1 + b.size) cur s
def heavyL (t : F) : List Int := each t.size (fun v => (t.sub v).best (v + 1) (-1) 0)
def parentsL (t : F) : List Int := each t.size (t.par 0 (-1))
def sizesL (t : F) : List Int := each t.size (fun v => ((1 + (t.sub v).size : Nat) : Int))
end Go.Proofs.Ytlppkilencpmeaa.Tr
