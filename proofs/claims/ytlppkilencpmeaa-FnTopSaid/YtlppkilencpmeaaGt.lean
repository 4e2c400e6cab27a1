/- The tree that a list grows: children, labels and degrees in preorder; each label stands there once. Plain mathematics, no program in sight. -/
import Derived.Test.YtlppkilencpmeaaNd
namespace Go.Proofs.Ytlppkilencpmeaa.Gt
set_option linter.unusedSimpArgs false
set_option linter.unusedVariables false
/-- The children of a label that a list tells from a place on. -/
def ch : List Int → Nat → Int → List Int
  | [], _, _ => []
  | x :: xs, i, l => if x = l then ((i + 1 : Nat) : Int) :: ch xs (i + 1) l else ch xs (i + 1) l
/-- The labels in preorder. -/
def wl (q : List Int) : Nat → Int → List Int
  | 0, _ => []
  | m + 1, l => l :: (ch q 0 l).flatMap (wl q m)
/-- The degrees in preorder. -/
def wd (q : List Int) : Nat → Int → List Int
  | 0, _ => []
  | m + 1, l => ((ch q 0 l).length : Int) :: (ch q 0 l).flatMap (wd q m)
/-- Each label's place. -/
def place : Nat → List Int → List Int → List Int
  | _, [], G => G
  | b, l :: ls, G => place (b + 1) ls (G.set l.toNat (b : Int))
def Grows (q : List Int) : Prop := ∀ (j : Nat) (x : Int), q[j]? = some x → 0 ≤ x ∧ x ≤ (j : Int)
theorem ch_snoc (xs : List Int) (x l : Int) : ∀ i, ch (xs ++ [x]) i l = ch xs i l ++ (if x = l then [((i + xs.length + 1 : Nat) : Int)] else []) := by
  induction xs with
  | nil => intro i; simp [ch]
  | cons y ys ih =>
    intro i
    simp only [List.cons_append, ch, ih, List.length_cons, show i + 1 + ys.length + 1 = i + (ys.length + 1) + 1 by omega]
    split <;> simp
theorem ch_mem {l c : Int} : ∀ {xs : List Int} {i : Nat}, c ∈ ch xs i l → ∃ j : Nat, xs[j]? = some l ∧ c = ((i + j + 1 : Nat) : Int) := by
  intro xs
  induction xs with
  | nil => intro i h; simp [ch] at h
  | cons y ys ih =>
    intro i h
    have hr : c ∈ ch ys (i + 1) l → ∃ j : Nat, (y :: ys)[j]? = some l ∧ c = ((i + j + 1 : Nat) : Int) := fun h => by
      obtain ⟨j, h1, h2⟩ := ih h
      exact ⟨j + 1, by simpa using h1, by rw [h2]; congr 1; omega⟩
    rw [ch] at h
    by_cases hy : y = l
    · rw [if_pos hy] at h
      rcases List.mem_cons.mp h with h | h
      · exact ⟨0, by simp [hy], h⟩
      · exact hr h
    · rw [if_neg hy] at h; exact hr h
theorem ch_kid {q : List Int} (hq : Grows q) {l c : Int} (h : c ∈ ch q 0 l) : l < c ∧ c ≤ (q.length : Int) ∧ 1 ≤ c := by
  obtain ⟨j, h1, h2⟩ := ch_mem h
  have h3 := hq j l h1
  obtain ⟨h4, -⟩ := List.getElem?_eq_some_iff.mp h1
  omega
theorem ch_len_le (l : Int) : ∀ (xs : List Int) (i : Nat), (ch xs i l).length ≤ xs.length := by
  intro xs
  induction xs with
  | nil => intro i; simp [ch]
  | cons y ys ih => intro i; have := ih (i + 1); rw [ch]; split <;> simp <;> omega
theorem wd_len (q : List Int) : ∀ (m : Nat) (l : Int), (wd q m l).length = (wl q m l).length := by
  intro m
  induction m with
  | zero => intro l; rfl
  | succ m ih => intro l; simp [wd, wl, List.length_flatMap, ih]
theorem wl_mem {q : List Int} (hq : Grows q) : ∀ (m : Nat) (l x : Int), l ≤ (q.length : Int) → x ∈ wl q m l → l ≤ x ∧ x ≤ (q.length : Int) := by
  intro m
  induction m with
  | zero => intro l x _ h; simp [wl] at h
  | succ m ih =>
    intro l x hl h
    rw [wl] at h
    rcases List.mem_cons.mp h with h | h
    · omega
    · obtain ⟨c, hc, h⟩ := List.mem_flatMap.mp h
      have h1 := ch_kid hq hc
      have h2 := ih c x (by omega) h
      omega
theorem ch_count {l : Int} : ∀ {xs : List Int} {i j : Nat} {p : Int}, xs[j]? = some p → (ch xs i l).count (((i + j + 1 : Nat) : Int)) = if p = l then 1 else 0 := by
  intro xs
  induction xs with
  | nil => intro i j p h; simp at h
  | cons y ys ih =>
    intro i j p h
    have hno : ∀ i', i < i' → (ch ys i' l).count (((i + 1 : Nat)) : Int) = 0 := fun i' hi => List.count_eq_zero.mpr (fun h => by obtain ⟨j, _, h2⟩ := ch_mem h; omega)
    rw [ch]
    cases j with
    | zero =>
      simp only [List.getElem?_cons_zero, Option.some.injEq] at h
      subst h
      by_cases hy : y = l
      · rw [if_pos hy, if_pos hy, List.count_cons, Nat.add_zero, hno (i + 1) (by omega), if_pos (beq_self_eq_true _)]
      · rw [if_neg hy, if_neg hy, Nat.add_zero]; exact hno (i + 1) (by omega)
    | succ j =>
      have h1 := ih (i := i + 1) (j := j) (p := p) (by simpa using h)
      rw [show i + 1 + j + 1 = i + (j + 1) + 1 by omega] at h1
      by_cases hy : y = l
      · rw [if_pos hy, List.count_cons_of_ne (by omega), h1]
      · rw [if_neg hy]; exact h1
theorem count_flat {f : Int → List Int} {x p : Int} : ∀ (cs : List Int), (∀ c ∈ cs, (f c).count x = (if c = x then 1 else 0) + (f c).count p) → (cs.flatMap f).count x = cs.count x + (cs.flatMap f).count p := by
  intro cs
  induction cs with
  | nil => intro _; simp
  | cons c cs ih =>
    intro h
    have h1 := h c (by simp)
    have h2 := ih (fun y hy => h y (by simp [hy]))
    simp only [List.flatMap_cons, List.count_append, List.count_cons, h1, h2, beq_iff_eq]
    omega
theorem wl_count {q : List Int} (hq : Grows q) {j : Nat} {p : Int} (hp : q[j]? = some p) : ∀ (m : Nat) (l : Int), 0 ≤ l → l ≤ (q.length : Int) → (q.length : Int) - l < m → (wl q m l).count (((j + 1 : Nat)) : Int) = (if l = ((j + 1 : Nat) : Int) then 1 else 0) + (wl q m l).count p := by
  intro m
  induction m with
  | zero => intro l h0 h1 h2; omega
  | succ m ih =>
    intro l h0 h1 h2
    have hf := count_flat (f := wl q m) (x := ((j + 1 : Nat) : Int)) (p := p) (ch q 0 l) (fun c hc => by
      have h3 := ch_kid hq hc
      exact ih c (by omega) (by omega) (by omega))
    have hc := ch_count (l := l) (i := 0) hp
    rw [Nat.zero_add] at hc
    rw [wl, List.count_cons, List.count_cons, hf, hc]
    simp only [beq_iff_eq]
    have e1 : (if p = l then 1 else 0) = (if l = p then 1 else 0) := by
      by_cases hpl : p = l
      · rw [if_pos hpl, if_pos hpl.symm]
      · rw [if_neg hpl, if_neg (fun e => hpl e.symm)]
    omega
theorem wl_one {q : List Int} (hq : Grows q) (m : Nat) (hm : q.length < m) : ∀ x : Nat, x ≤ q.length → (wl q m 0).count (x : Int) = 1 := by
  intro x
  induction x using Nat.strongRecOn with
  | ind x ih =>
    intro hx
    match x with
    | 0 =>
      obtain ⟨m, rfl⟩ : ∃ m', m = m' + 1 := ⟨m - 1, by omega⟩
      rw [wl, List.count_cons, List.count_eq_zero.mpr]
      · simp
      · intro h
        obtain ⟨c, hc, h⟩ := List.mem_flatMap.mp h
        have h1 := ch_kid hq hc
        have h2 := wl_mem hq m c _ (by omega) h
        omega
    | j + 1 =>
      have hj : j < q.length := by omega
      have hp : q[j]? = some q[j] := List.getElem?_eq_getElem hj
      obtain ⟨h3, h4⟩ := hq j _ hp
      rw [wl_count hq hp m 0 (by omega) (by omega) (by omega), if_neg (by omega)]
      have h5 := ih q[j].toNat (by omega) (by omega)
      rw [Int.toNat_of_nonneg h3] at h5
      omega
theorem wl_perm {q : List Int} (hq : Grows q) (m : Nat) (hm : q.length < m) : (wl q m 0).Perm ((List.range (q.length + 1)).map (fun i : Nat => (i : Int))) := by
  have hn : ((List.range (q.length + 1)).map (fun i : Nat => (i : Int))).Nodup := List.Pairwise.map _ (fun a b h => by omega) (List.nodup_range (n := q.length + 1))
  rw [List.perm_iff_count]
  intro x
  by_cases hx : 0 ≤ x ∧ x ≤ (q.length : Int)
  · obtain ⟨y, rfl⟩ : ∃ y : Nat, x = (y : Int) := ⟨x.toNat, by omega⟩
    rw [wl_one hq m hm y (by omega), hn.count, if_pos]
    exact List.mem_map.mpr ⟨y, List.mem_range.mpr (by omega), rfl⟩
  · rw [List.count_eq_zero.mpr, List.count_eq_zero.mpr]
    · intro h
      obtain ⟨y, hy, rfl⟩ := List.mem_map.mp h
      have := List.mem_range.mp hy
      omega
    · intro h
      exact hx (wl_mem hq m 0 x (by omega) h)
theorem wl_len {q : List Int} (hq : Grows q) (m : Nat) (hm : q.length < m) : (wl q m 0).length = q.length + 1 := by
  rw [(wl_perm hq m hm).length_eq]; simp
theorem place_append : ∀ (ls ms : List Int) (b : Nat) (G : List Int), place b (ls ++ ms) G = place (b + ls.length) ms (place b ls G) := by
  intro ls
  induction ls with
  | nil => intro ms b G; simp [place]
  | cons l ls ih => intro ms b G; rw [List.cons_append, place, ih, place, List.length_cons]; congr 1; omega
theorem place_len : ∀ (ls : List Int) (b : Nat) (G : List Int), (place b ls G).length = G.length := by
  intro ls
  induction ls with
  | nil => intro b G; rfl
  | cons l ls ih => intro b G; rw [place, ih, List.length_set]
theorem flat_congr {α : Type} {f g : Int → List α} : ∀ (cs : List Int), (∀ c ∈ cs, f c = g c) → cs.flatMap f = cs.flatMap g := by
  intro cs
  induction cs with
  | nil => intro _; rfl
  | cons c cs ih => intro h; rw [List.flatMap_cons, List.flatMap_cons, h c (by simp), ih (fun y hy => h y (by simp [hy]))]
theorem fuel {q : List Int} (hq : Grows q) : ∀ (m m' : Nat) (l : Int), l ≤ (q.length : Int) → (q.length : Int) - l < m → (q.length : Int) - l < m' → wl q m l = wl q m' l ∧ wd q m l = wd q m' l := by
  intro m
  induction m with
  | zero => intro m' l h1 h2 h3; omega
  | succ m ih =>
    intro m' l h1 h2 h3
    obtain ⟨m', rfl⟩ : ∃ m'', m' = m'' + 1 := ⟨m' - 1, by omega⟩
    have h4 : ∀ c ∈ ch q 0 l, wl q m c = wl q m' c ∧ wd q m c = wd q m' c := fun c hc => by
      have h5 := ch_kid hq hc
      exact ih m' c (by omega) (by omega) (by omega)
    exact ⟨congrArg (l :: ·) (flat_congr _ (fun c hc => (h4 c hc).1)), congrArg (((ch q 0 l).length : Int) :: ·) (flat_congr _ (fun c hc => (h4 c hc).2))⟩
/-- The list grows a tree. -/
def ok : List Int → Nat → Bool
  | [], _ => true
  | x :: xs, i => decide (0 ≤ x ∧ x ≤ (i : Int)) && ok xs (i + 1)
def Kids (K : List (List Int)) (q : List Int) : Prop := K.length = q.length + 1 ∧ ∀ j : Nat, K.getD j [] = ch q 0 (j : Int)
theorem kids_snoc {K : List (List Int)} {p : List Int} {x : Int} (h : Kids K p) (h0 : 0 ≤ x) (h1 : x ≤ (p.length : Int)) : Kids (K.set x.toNat (K.getD x.toNat [] ++ [((p.length + 1 : Nat) : Int)]) ++ [[]]) (p ++ [x]) := by
  refine ⟨by simp [h.1], fun j => ?_⟩
  rw [ch_snoc, Nat.zero_add]
  have hj := h.2 j
  have hx := h.2 x.toNat
  rw [List.getD_eq_getElem?_getD] at hj ⊢
  by_cases hl : j < K.length
  · rw [List.getElem?_append_left (by rw [List.length_set]; exact hl), List.getElem?_set]
    by_cases he : x.toNat = j
    · rw [if_pos he, if_pos (by omega), Option.getD_some, if_pos (by omega), hx, show (((x.toNat : Nat)) : Int) = (j : Int) by omega]
    · rw [if_neg he, hj, if_neg (by omega), List.append_nil]
  · have hn : ch p 0 (j : Int) = [] := by rw [← hj, List.getElem?_eq_none (by omega)]; rfl
    rw [List.getElem?_append_right (by rw [List.length_set]; omega), List.length_set, hn, if_neg (by have := h.1; omega)]
    cases hi : j - K.length with
    | zero => simp
    | succ i => simp
end Go.Proofs.Ytlppkilencpmeaa.Gt
