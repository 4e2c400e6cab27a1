/- Heavy paths have each node once; each light step at least halves the subtree. Plain mathematics, no program in sight. -/
import Derived.Test.YtlppkilencpmeaaHp
namespace Go.Proofs.Ytlppkilencpmeaa.Tr
open Go.RowKit Go.Proofs.YtlppkilencpmeaaW.PrintWords
set_option linter.unusedSimpArgs false
set_option linter.unusedVariables false

section
variable {d : List Int} {t : F}
theorem heavy_next (h : Tree d t) {v : Nat} (hv : v < t.size) : rd (heavyL t) (v : Int) = -1 ∨ ∃ u : Nat, rd (heavyL t) (v : Int) = (u : Int) ∧ v < u ∧ u < t.size ∧ t.par 0 (-1) u = (v : Int) ∧ (u : Int) ∈ (t.sub v).roots (v + 1) := by
  have e : rd (heavyL t) (v : Int) = (t.sub v).best (v + 1) (-1) 0 := each_rd hv
  rw [e]
  rcases F.best_mem (t.sub v) (v + 1) (-1) 0 with q | q
  · exact .inl q
  · have h1 := h.kid_range hv q
    obtain ⟨u, hu⟩ := Int.eq_ofNat_of_zero_le (show 0 ≤ (t.sub v).best (v + 1) (-1) 0 by omega)
    rw [hu] at q h1 ⊢
    exact .inr ⟨u, rfl, by omega, by omega, (h.kids hv (by omega)).mp q, q⟩
theorem heavyL_len : (heavyL t).length = t.size := each_len _ _
theorem hpath_light (h : Tree d t) {u : Nat} (hu : ¬ (u : Int) ∈ heavyL t) : ∀ (m w : Nat), w < t.size → t.size < m + w → (hpath (heavyL t) m (w : Int)).count (u : Int) = if w = u then 1 else 0 := by
  intro m
  induction m with
  | zero => intro w h1 h2; omega
  | succ m ih =>
    intro w h1 h2
    rw [hpath, if_neg (by omega), List.count_cons]
    have e0 : (if ((w : Int) == (u : Int)) = true then 1 else 0) = if w = u then 1 else 0 := by
      by_cases e : w = u
      · subst e; simp
      · rw [if_neg e, if_neg (by simpa using fun hh => e (by omega))]
    rw [e0]
    rcases heavy_next h h1 with q | ⟨w', q, h3, h4, _, _⟩
    · rw [q, hpath_neg _ _ (by omega)]; simp
    · have hm : (w' : Int) ∈ heavyL t := by rw [← q]; exact rd_mem (by omega) (by rw [heavyL_len]; omega)
      rw [q, ih w' h4 (by omega), if_neg (fun e => hu (by rw [← e]; exact hm))]
      omega
theorem hpath_heavy (h : Tree d t) {u : Nat} (hu1 : 1 ≤ u) (hun : u < t.size) (hu : (u : Int) ∈ heavyL t) : ∀ (m w : Nat), w < t.size → t.size < m + w → (hpath (heavyL t) m (w : Int)).count (u : Int) = (if w = u then 1 else 0) + (hpath (heavyL t) m (w : Int)).count (t.par 0 (-1) u) := by
  have hp := (heavy_iff h hu1 hun).mp hu
  have hpr := h.par_pos hu1 hun
  obtain ⟨p, hpp⟩ := Int.eq_ofNat_of_zero_le hpr.1
  rw [hpp] at hp hpr ⊢
  intro m
  induction m with
  | zero => intro w h1 h2; omega
  | succ m ih =>
    intro w h1 h2
    rw [hpath, if_neg (by omega), List.count_cons, List.count_cons]
    have e0 : ∀ x : Nat, (if ((w : Int) == (x : Int)) = true then 1 else 0) = if w = x then 1 else 0 := fun x => by
      by_cases e : w = x
      · subst e; simp
      · rw [if_neg e, if_neg (by simpa using fun hh => e (by omega))]
    rw [e0, e0]
    rcases heavy_next h h1 with q | ⟨w', q, h3, h4, h5, _⟩
    · rw [q, hpath_neg _ _ (by omega)]
      have : ¬ w = p := fun e => by rw [e, hp] at q; omega
      rw [if_neg this]; simp
    · rw [q, ih w' h4 (by omega)]
      by_cases e : w' = u
      · have : w = p := by rw [e, hpp] at h5; omega
        rw [if_pos e, if_pos this]; omega
      · have : ¬ w = p := fun e2 => by rw [e2, hp] at q; omega
        rw [if_neg e, if_neg this]; omega
/-- All paths, one behind the other. -/
def flatP (t : F) : Nat → Nat → List Int
  | 0, _ => []
  | m + 1, v => (if (v : Int) ∈ heavyL t then [] else hpath (heavyL t) (t.size + 1) (v : Int)) ++ flatP t m (v + 1)
theorem hpaths_flat : ∀ (m v : Nat) (out : List (List Int)), (hpaths t m v out).flatten = out.flatten ++ flatP t m v := by
  intro m
  induction m with
  | zero => intro v out; simp [hpaths, flatP]
  | succ m ih =>
    intro v out
    rw [hpaths, flatP]
    split
    · rw [ih]; simp
    · rw [ih]; simp
theorem flatP_light (h : Tree d t) {u : Nat} (hu : ¬ (u : Int) ∈ heavyL t) : ∀ (m v : Nat), v + m ≤ t.size → (flatP t m v).count (u : Int) = if v ≤ u ∧ u < v + m then 1 else 0 := by
  intro m
  induction m with
  | zero => intro v _; rw [if_neg (by omega)]; rfl
  | succ m ih =>
    intro v hv
    rw [flatP, List.count_append, ih (v + 1) (by omega)]
    split
    · rename_i hm
      have : v ≠ u := fun e => hu (by rw [← e]; exact hm)
      rw [List.count_nil]
      by_cases c : v + 1 ≤ u ∧ u < v + 1 + m
      · rw [if_pos c, if_pos (by omega)]
      · rw [if_neg c, if_neg (by omega)]
    · rw [hpath_light h hu _ _ (by omega) (by omega)]
      by_cases e : v = u
      · rw [if_pos e, if_neg (by omega), if_pos (by omega)]
      · rw [if_neg e]
        by_cases c : v + 1 ≤ u ∧ u < v + 1 + m
        · rw [if_pos c, if_pos (by omega)]
        · rw [if_neg c, if_neg (by omega)]
theorem flatP_heavy (h : Tree d t) {u : Nat} (hu1 : 1 ≤ u) (hun : u < t.size) (hu : (u : Int) ∈ heavyL t) : ∀ (m v : Nat), v + m ≤ t.size → (flatP t m v).count (u : Int) = (flatP t m v).count (t.par 0 (-1) u) := by
  intro m
  induction m with
  | zero => intro v _; rfl
  | succ m ih =>
    intro v hv
    rw [flatP, List.count_append, List.count_append, ih (v + 1) (by omega)]
    split
    · rfl
    · rename_i hm
      have : v ≠ u := fun e => hm (by rw [e]; exact hu)
      rw [hpath_heavy h hu1 hun hu _ _ (by omega) (by omega), if_neg this]; omega
theorem flatP_one (h : Tree d t) : ∀ u : Nat, u < t.size → (flatP t t.size 0).count (u : Int) = 1 := by
  intro u
  induction u using Nat.strongRecOn with
  | _ u ih =>
    intro hu
    by_cases hm : (u : Int) ∈ heavyL t
    · have h1 : 1 ≤ u := by
        apply Classical.byContradiction
        intro h0
        have : u = 0 := by omega
        subst this
        exact heavy_zero h hm
      have hp := h.par_pos h1 hu
      obtain ⟨p, hpp⟩ := Int.eq_ofNat_of_zero_le hp.1
      rw [flatP_heavy h h1 hu hm _ _ (by omega), hpp]
      exact ih p (by omega) (by omega)
    · rw [flatP_light h hm _ _ (by omega), if_pos (by omega)]
/-- From one to the next down the heavy children, to the end. -/
def chn (H : List Int) : List Int → Prop
  | [] => False
  | [x] => rd H x = -1
  | x :: y :: r => rd H x = y ∧ chn H (y :: r)
theorem hpath_chn (h : Tree d t) : ∀ (m w : Nat), w < t.size → t.size < m + w → chn (heavyL t) (hpath (heavyL t) m (w : Int)) ∧ ∀ x ∈ hpath (heavyL t) m (w : Int), 0 ≤ x ∧ x < (t.size : Int) := by
  intro m
  induction m with
  | zero => intro w h1 h2; omega
  | succ m ih =>
    intro w h1 h2
    rw [hpath, if_neg (by omega)]
    rcases heavy_next h h1 with q | ⟨w', q, h3, h4, h5, _⟩
    · rw [q, hpath_neg _ _ (by omega)]
      exact ⟨q, fun x hx => by rw [List.mem_singleton] at hx; omega⟩
    · rw [q]
      obtain ⟨i1, i2⟩ := ih w' h4 (by omega)
      refine ⟨?_, fun x hx => ?_⟩
      · obtain ⟨m', rfl⟩ : ∃ m', m = m' + 1 := ⟨m - 1, by omega⟩
        rw [hpath, if_neg (by omega)] at i1 ⊢
        exact ⟨q, i1⟩
      · rcases List.mem_cons.mp hx with hx | hx
        · omega
        · exact i2 x hx
theorem hpaths_all (h : Tree d t) : ∀ (m v : Nat) (out : List (List Int)), v + m ≤ t.size → (∀ P ∈ out, chn (heavyL t) P ∧ ∀ x ∈ P, 0 ≤ x ∧ x < (t.size : Int)) → ∀ P ∈ hpaths t m v out, chn (heavyL t) P ∧ ∀ x ∈ P, 0 ≤ x ∧ x < (t.size : Int) := by
  intro m
  induction m with
  | zero => intro v out _ ho; exact ho
  | succ m ih =>
    intro v out hv ho
    rw [hpaths]
    split
    · exact ih _ _ (by omega) ho
    · refine ih _ _ (by omega) (fun P hP => ?_)
      rcases List.mem_append.mp hP with hP | hP
      · exact ho P hP
      · rw [List.mem_singleton] at hP
        subst hP
        exact hpath_chn h _ _ (by omega) (by omega)
end
/-! ### Light steps -/
def szAt (g : F) (p : Nat) (c : Int) : Nat := 1 + (g.sub (c.toNat - p)).size
theorem szAt_head (b n : F) (p : Nat) : szAt (.cons b n) p (p : Int) = 1 + b.size := by
  unfold szAt; rw [Int.toNat_natCast, Nat.sub_self, F.sub_zero]
theorem szAt_tail {b n : F} {p : Nat} {c : Int} (h : c ∈ n.roots (p + 1 + b.size)) : szAt (.cons b n) p c = szAt n (p + 1 + b.size) c := by
  have h1 := F.roots_range n _ c h
  unfold szAt
  rw [F.sub_right (by omega), show c.toNat - p - 1 - b.size = c.toNat - (p + 1 + b.size) by omega]
theorem best_ge : ∀ (g : F) (p : Nat) (cur s : Int), (g.best p cur s = cur ∧ ∀ c ∈ g.roots p, (szAt g p c : Int) ≤ s) ∨ (g.best p cur s ∈ g.roots p ∧ s < (szAt g p (g.best p cur s) : Int) ∧ ∀ c ∈ g.roots p, szAt g p c ≤ szAt g p (g.best p cur s)) := by
  intro g
  induction g with
  | nil => intro p cur s; exact .inl ⟨rfl, fun c hc => by simp [F.roots] at hc⟩
  | cons b n _ ih =>
    intro p cur s
    rw [F.best, F.roots]
    have hh := szAt_head b n p
    by_cases hs : s < ((1 + b.size : Nat) : Int)
    · rw [if_pos hs]
      rcases ih (p + 1 + b.size) (p : Int) ((1 + b.size : Nat) : Int) with ⟨h1, h2⟩ | ⟨h1, h2, h3⟩
      · right
        rw [h1, hh]
        refine ⟨List.mem_cons_self .., hs, fun c hc => ?_⟩
        rcases List.mem_cons.mp hc with hc | hc
        · rw [hc, hh]; omega
        · rw [szAt_tail hc]; have := h2 c hc; omega
      · right
        rw [szAt_tail h1]
        refine ⟨List.mem_cons_of_mem _ h1, by omega, fun c hc => ?_⟩
        rcases List.mem_cons.mp hc with hc | hc
        · rw [hc, hh]; omega
        · rw [szAt_tail hc]; exact h3 c hc
    · rw [if_neg hs]
      rcases ih (p + 1 + b.size) cur s with ⟨h1, h2⟩ | ⟨h1, h2, h3⟩
      · left
        refine ⟨h1, fun c hc => ?_⟩
        rcases List.mem_cons.mp hc with hc | hc
        · rw [hc, hh]; omega
        · rw [szAt_tail hc]; exact h2 c hc
      · right
        rw [szAt_tail h1]
        refine ⟨List.mem_cons_of_mem _ h1, h2, fun c hc => ?_⟩
        rcases List.mem_cons.mp hc with hc | hc
        · rw [hc, hh]; omega
        · rw [szAt_tail hc]; exact h3 c hc
theorem root_size : ∀ (g : F) (p : Nat) (c : Int), c ∈ g.roots p → szAt g p c ≤ g.size := by
  intro g
  induction g with
  | nil => intro p c hc; simp [F.roots] at hc
  | cons b n _ ih =>
    intro p c hc
    rw [F.roots] at hc
    rcases List.mem_cons.mp hc with hc | hc
    · rw [hc, szAt_head]; simp only [F.size]; omega
    · rw [szAt_tail hc]; have := ih _ _ hc; simp only [F.size]; omega
theorem two_size : ∀ (g : F) (p : Nat) (c c' : Int), c ∈ g.roots p → c' ∈ g.roots p → c ≠ c' → szAt g p c + szAt g p c' ≤ g.size := by
  intro g
  induction g with
  | nil => intro p c c' hc; simp [F.roots] at hc
  | cons b n _ ih =>
    intro p c c' hc hc' hne
    rw [F.roots] at hc hc'
    simp only [F.size]
    rcases List.mem_cons.mp hc with hc | hc <;> rcases List.mem_cons.mp hc' with hc' | hc'
    · omega
    · rw [hc, szAt_head, szAt_tail hc']; have := root_size _ _ _ hc'; omega
    · rw [hc', szAt_head, szAt_tail hc]; have := root_size _ _ _ hc; omega
    · rw [szAt_tail hc, szAt_tail hc']; have := ih _ _ _ hc hc' hne; omega
section
variable {d : List Int} {t : F}
theorem sub_kid (h : Tree d t) {p v : Nat} (hp : p < t.size) (hv : (v : Int) ∈ (t.sub p).roots (p + 1)) : szAt (t.sub p) (p + 1) (v : Int) = 1 + (t.sub v).size := by
  have hr := F.roots_range _ _ _ hv
  have hf := h.fits hp
  obtain ⟨n1, h1⟩ := h.node (v := v) (by omega)
  obtain ⟨n2, h2⟩ := h.node hp
  obtain ⟨n3, h3⟩ := Pl.nth h2.below (v - (p + 1)) (by omega)
  rw [show p + 1 + (v - (p + 1)) = v by omega] at h3
  unfold szAt
  rw [Int.toNat_natCast, Pl.uniq1 h3 h1]
theorem step_size (h : Tree d t) {v p : Nat} (h1 : 1 ≤ v) (hv : v < t.size) (hp : t.par 0 (-1) v = (p : Int)) : p < v ∧ 1 + (t.sub v).size ≤ 1 + (t.sub p).size ∧ (¬ (v : Int) ∈ heavyL t → 2 * (1 + (t.sub v).size) ≤ 1 + (t.sub p).size) := by
  have hpr := h.par_pos h1 hv
  have hk := (h.kids (v := p) (by omega) hv).mpr hp
  have hs := sub_kid h (p := p) (v := v) (by omega) hk
  have hr := root_size _ _ _ hk
  refine ⟨by omega, by omega, fun hn => ?_⟩
  have e : rd (heavyL t) (p : Int) = (t.sub p).best (p + 1) (-1) 0 := each_rd (by omega)
  have hne : rd (heavyL t) (p : Int) ≠ (v : Int) := fun e2 => hn ((heavy_iff h h1 hv).mpr (by rw [hp]; exact e2))
  rw [e] at hne
  rcases best_ge (t.sub p) (p + 1) (-1) 0 with ⟨b1, b2⟩ | ⟨b1, b2, b3⟩
  · have := b2 _ hk; omega
  · have h2 := b3 _ hk
    have h3 := two_size _ _ _ _ hk b1 (fun e3 => hne e3.symm)
    omega
end
theorem root_end : ∀ (g : F) (p : Nat) (c : Int), c ∈ g.roots p → c.toNat + szAt g p c ≤ p + g.size := by
  intro g
  induction g with
  | nil => intro p c hc; simp [F.roots] at hc
  | cons b n _ ih =>
    intro p c hc
    rw [F.roots] at hc
    rcases List.mem_cons.mp hc with hc | hc
    · rw [hc, szAt_head, Int.toNat_natCast]; simp only [F.size]; omega
    · rw [szAt_tail hc]; have := ih _ _ hc; simp only [F.size]; omega
theorem par_in {d : List Int} {t : F} (h : Tree d t) {v p : Nat} (h1 : 1 ≤ v) (hv : v < t.size) (hp : t.par 0 (-1) v = (p : Int)) : p < v ∧ v + 1 + (t.sub v).size ≤ p + 1 + (t.sub p).size := by
  have hpr := h.par_pos h1 hv
  have hk := (h.kids (v := p) (by omega) hv).mpr hp
  have hs := sub_kid h (p := p) (v := v) (by omega) hk
  have hr := root_end _ _ _ hk
  rw [Int.toNat_natCast] at hr
  omega
theorem whole_size {d : List Int} {t : F} (h : Tree d t) : 1 + (t.sub 0).size = t.size := by
  obtain ⟨b, rfl⟩ := h.one
  rw [F.sub_zero]; simp only [F.size]; omega
end Go.Proofs.Ytlppkilencpmeaa.Tr
