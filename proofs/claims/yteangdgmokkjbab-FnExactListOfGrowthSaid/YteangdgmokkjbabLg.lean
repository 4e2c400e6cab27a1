/- The list that grows a tree in an order: it does so if the children of each node come in the order of their labels. Plain mathematics, no program in sight. -/
import Derived.Test.YteangdgmokkjbabOd
import Derived.Test.YteangdgmokkjbabGt
namespace Go.Proofs.Yteangdgmokkjbab.Lg
open Go.RowKit Go.Proofs.YteangdgmokkjbabW.PrintWords Go.Proofs.Yteangdgmokkjbab.Tr Go.Proofs.Yteangdgmokkjbab.Gt
set_option linter.unusedSimpArgs false
set_option linter.unusedVariables false

theorem sorted_ext : ∀ (a b : List Int), a.Pairwise (fun x y => x < y) → b.Pairwise (fun x y => x < y) → (∀ x, x ∈ a ↔ x ∈ b) → a = b := by
  intro a
  induction a with
  | nil =>
    intro b _ _ h
    cases b with
    | nil => rfl
    | cons y b => exact absurd ((h y).mpr (by simp)) (by simp)
  | cons x a ih =>
    intro b ha hb h
    cases b with
    | nil => exact absurd ((h x).mp (by simp)) (by simp)
    | cons y b =>
      rw [List.pairwise_cons] at ha hb
      have hxy : x = y := by
        rcases List.mem_cons.mp ((h x).mp (by simp)) with h1 | h1
        · exact h1
        · rcases List.mem_cons.mp ((h y).mpr (by simp)) with h2 | h2
          · exact h2.symm
          · have h3 := hb.1 x h1; have h4 := ha.1 y h2; omega
      subst hxy
      rw [ih b ha.2 hb.2 (fun z => ?_)]
      constructor
      · intro hz
        rcases List.mem_cons.mp ((h z).mp (List.mem_cons_of_mem _ hz)) with h1 | h1
        · subst h1; have := ha.1 _ hz; omega
        · exact h1
      · intro hz
        rcases List.mem_cons.mp ((h z).mpr (List.mem_cons_of_mem _ hz)) with h1 | h1
        · subst h1; have := hb.1 _ hz; omega
        · exact h1
theorem ch_sorted (l : Int) : ∀ (xs : List Int) (i : Nat), (ch xs i l).Pairwise (fun x y => x < y) := by
  intro xs
  induction xs with
  | nil => intro i; simp [ch]
  | cons x xs ih =>
    intro i
    rw [ch]
    split
    · rw [List.pairwise_cons]
      refine ⟨fun y hy => ?_, ih _⟩
      obtain ⟨j, _, h⟩ := ch_mem hy
      omega
    · exact ih _
theorem ch_of {q : List Int} {l : Int} {j : Nat} (h : q[j]? = some l) : ((j + 1 : Nat) : Int) ∈ ch q 0 l := by
  have h1 := ch_count (l := l) (i := 0) h
  rw [if_pos rfl, Nat.zero_add] at h1
  exact List.count_pos_iff.mp (by omega)
/-- No number is less than the one ahead of it. -/
def asc : List Int → Bool
  | x :: y :: r => decide (¬ x > y) && asc (y :: r)
  | _ => true
theorem asc_sorted : ∀ (l : List Int), l.Nodup → (asc l = true ↔ l.Pairwise (fun x y => x < y)) := by
  intro l
  induction l with
  | nil => intro _; simp [asc]
  | cons x l ih =>
    intro hn
    rw [List.nodup_cons] at hn
    cases l with
    | nil => simp [asc]
    | cons y r =>
      have h := ih hn.2
      rw [asc, Bool.and_eq_true, decide_eq_true_eq, List.pairwise_cons, h]
      have hxy : x ≠ y := fun e => hn.1 (by rw [e]; simp)
      constructor
      · rintro ⟨h1, h2⟩
        refine ⟨fun z hz => ?_, h2⟩
        rcases List.mem_cons.mp hz with h3 | h3
        · omega
        · have := (List.pairwise_cons.mp h2).1 z h3; omega
      · rintro ⟨h1, h2⟩
        exact ⟨by have := h1 y (by simp); omega, h2⟩
theorem roll {q : List Int} (hq : Grows q) {l : Int} (h0 : 0 ≤ l) (h1 : l ≤ (q.length : Int)) : wl q (q.length + 1) l = l :: (ch q 0 l).flatMap (wl q (q.length + 1)) ∧ wd q (q.length + 1) l = ((ch q 0 l).length : Int) :: (ch q 0 l).flatMap (wd q (q.length + 1)) := by
  have hf : ∀ c ∈ ch q 0 l, wl q q.length c = wl q (q.length + 1) c ∧ wd q q.length c = wd q (q.length + 1) c := fun c hc => by
    have h3 := ch_kid hq hc
    exact fuel hq q.length (q.length + 1) c (by omega) (by omega) (by omega)
  exact ⟨congrArg (l :: ·) (flat_congr _ (fun c hc => (hf c hc).1)), congrArg (((ch q 0 l).length : Int) :: ·) (flat_congr _ (fun c hc => (hf c hc).2))⟩
theorem wd_enc {q : List Int} (hq : Grows q) : ∀ (m : Nat) (cs : List Int), (∀ c ∈ cs, c ≤ (q.length : Int) ∧ (q.length : Int) - c < m) → ∃ f : F, f.len = cs.length ∧ cs.flatMap (wd q m) = f.enc := by
  intro m
  induction m with
  | zero =>
    intro cs h
    cases cs with
    | nil => exact ⟨.nil, rfl, rfl⟩
    | cons c cs => have := h c (by simp); omega
  | succ m ih =>
    intro cs
    induction cs with
    | nil => intro _; exact ⟨.nil, rfl, rfl⟩
    | cons c cs ihc =>
      intro h
      obtain ⟨g, hg1, hg2⟩ := ihc (fun y hy => h y (List.mem_cons_of_mem _ hy))
      have hc := h c (by simp)
      obtain ⟨f, hf1, hf2⟩ := ih (ch q 0 c) (fun y hy => by have h3 := ch_kid hq hy; omega)
      refine ⟨.cons f g, by simp [F.len, hg1]; omega, ?_⟩
      rw [List.flatMap_cons, hg2, wd, hf2, F.enc, hf1]
      rfl
theorem place_rd : ∀ (L : List Int) (b : Nat) (G : List Int) (i : Nat), L.Nodup → (∀ x ∈ L, 0 ≤ x) → i < G.length → rd (place b L G) (i : Int) = if (i : Int) ∈ L then idx (i : Int) L b else rd G (i : Int) := by
  intro L
  induction L with
  | nil => intro b G i _ _ _; simp [place]
  | cons x L ih =>
    intro b G i hn h0 hi
    rw [List.nodup_cons] at hn
    have hx := h0 x (by simp)
    rw [place, ih (b + 1) _ i hn.2 (fun y hy => h0 y (List.mem_cons_of_mem _ hy)) (by rw [List.length_set]; exact hi), rd_set hi hx, idx]
    by_cases hm : (i : Int) ∈ L
    · have hne : (i : Int) ≠ x := fun e => hn.1 (by rw [← e]; exact hm)
      rw [if_pos hm, if_pos (List.mem_cons_of_mem _ hm), if_neg hne]
    · rw [if_neg hm]
      by_cases he : (i : Int) = x
      · rw [if_pos he, if_pos he.symm, if_pos (show (i : Int) ∈ x :: L by rw [he]; simp)]
      · rw [if_neg (fun e => he e.symm), if_neg (show ¬ (i : Int) ∈ x :: L by simp [hm, he])]
theorem idx_rd {n : Nat} {l : List Int} (ho : isOrd n l) {i : Nat} (hi : i < n) : idx (rd l (i : Int)) l 0 = i := by
  have hl := ho.1
  have hm : rd l (i : Int) ∈ l := rd_mem (by omega) (by omega)
  have h1 := (idx_mem (rd l (i : Int)) l 0).mpr hm
  have h2 := idx_get (rd l (i : Int)) l 0 h1
  have h3 := idx_range (rd l (i : Int)) l 0
  obtain ⟨j, hj⟩ := Int.eq_ofNat_of_zero_le h1
  rw [hj] at h2 h3 ⊢
  have hjn : j < l.length := by omega
  rw [show ((j : Int) - ((0 : Nat) : Int)) = (j : Int) by omega, rd_getElem hjn, rd_getElem (by omega : i < l.length)] at h2
  have h4 := (List.getElem_inj ho.2.1).mp h2
  omega
theorem rd_idx {n : Nat} {l : List Int} (ho : isOrd n l) {v : Int} (h0 : 0 ≤ v) (h1 : v < n) : 0 ≤ idx v l 0 ∧ idx v l 0 < n ∧ rd l (idx v l 0) = v := by
  have hm := (isOrd_mem ho).mpr ⟨h0, h1⟩
  have h2 := (idx_mem v l 0).mpr hm
  have h3 := idx_get v l 0 h2
  have h4 := idx_range v l 0
  have hl := ho.1
  rw [show (idx v l 0 - ((0 : Nat) : Int)) = idx v l 0 by omega] at h3
  exact ⟨h2, by omega, h3⟩
theorem idx_inj {n : Nat} {l : List Int} (ho : isOrd n l) {u v : Int} (h0 : 0 ≤ u) (h1 : u < n) (h2 : 0 ≤ v) (h3 : v < n) (h : idx u l 0 = idx v l 0) : u = v := by
  have h4 := (rd_idx ho h0 h1).2.2
  have h5 := (rd_idx ho h2 h3).2.2
  rw [h] at h4
  exact h4.symm.trans h5
theorem roots_sorted : ∀ (g : F) (p : Nat), (g.roots p).Pairwise (fun x y => x < y) := by
  intro g
  induction g with
  | nil => intro p; simp [F.roots]
  | cons b n _ ih =>
    intro p
    rw [F.roots, List.pairwise_cons]
    refine ⟨fun y hy => ?_, ih _⟩
    have := F.roots_range n _ y hy
    omega
theorem flat_len (q : List Int) (m : Nat) (cs : List Int) : (cs.flatMap (wl q m)).length = (cs.flatMap (wd q m)).length := by
  induction cs with
  | nil => rfl
  | cons c cs ih => rw [List.flatMap_cons, List.flatMap_cons, List.length_append, List.length_append, ih, wd_len]
section
variable {q : List Int} {f : Int → Int}
theorem flat_all (hq : Grows q) : ∀ (g : F) (p : Nat), (∀ v : Nat, v < g.size → 0 ≤ f ((p + v : Nat) : Int) ∧ f ((p + v : Nat) : Int) ≤ (q.length : Int)) → (∀ v : Nat, v < g.size → ch q 0 (f ((p + v : Nat) : Int)) = ((g.sub v).roots (p + v + 1)).map f) →
    ((g.roots p).map f).flatMap (wd q (q.length + 1)) = g.enc ∧ ((g.roots p).map f).flatMap (wl q (q.length + 1)) = (List.range' p g.size).map (fun v : Nat => f (v : Int)) := by
  intro g
  induction g with
  | nil => intro p _ _; exact ⟨rfl, rfl⟩
  | cons b n ihb ihn =>
    intro p hr hP
    simp only [F.size] at hr hP
    have h0 := hP 0 (by omega)
    have hr0 := hr 0 (by omega)
    rw [F.sub_zero, Nat.add_zero] at h0
    rw [Nat.add_zero] at hr0
    obtain ⟨hw, hd⟩ := roll hq hr0.1 hr0.2
    obtain ⟨hb1, hb2⟩ := ihb (p + 1) (fun v hv => by have := hr (1 + v) (by omega); rwa [show p + (1 + v) = p + 1 + v by omega] at this) (fun v hv => by
      have h := hP (1 + v) (by omega)
      rwa [F.sub_left (by omega) (by omega), show 1 + v - 1 = v by omega, show p + (1 + v) = p + 1 + v by omega] at h)
    obtain ⟨hn1, hn2⟩ := ihn (p + 1 + b.size) (fun v hv => by have := hr (1 + b.size + v) (by omega); rwa [show p + (1 + b.size + v) = p + 1 + b.size + v by omega] at this) (fun v hv => by
      have h := hP (1 + b.size + v) (by omega)
      rwa [F.sub_right (by omega), show 1 + b.size + v - 1 - b.size = v by omega, show p + (1 + b.size + v) = p + 1 + b.size + v by omega] at h)
    rw [F.roots, List.map_cons, List.flatMap_cons, List.flatMap_cons, hd, hw, h0, hb1, hb2, hn1, hn2]
    constructor
    · rw [List.length_map, F.roots_len, F.enc]; rfl
    · rw [F.size, show 1 + b.size + n.size = (b.size + n.size) + 1 by omega, List.range'_succ, List.map_cons, ← List.range'_append_1, List.map_append]
      rfl
theorem flat_back (hq : Grows q) : ∀ (g : F) (p : Nat) (cs : List Int), cs.length = g.len → (∀ c ∈ cs, 0 ≤ c ∧ c ≤ (q.length : Int)) → cs.flatMap (wd q (q.length + 1)) = g.enc → cs.flatMap (wl q (q.length + 1)) = (List.range' p g.size).map (fun v : Nat => f (v : Int)) →
    cs = (g.roots p).map f ∧ ∀ v : Nat, v < g.size → ch q 0 (f ((p + v : Nat) : Int)) = ((g.sub v).roots (p + v + 1)).map f := by
  intro g
  induction g with
  | nil =>
    intro p cs hl _ _ _
    obtain rfl : cs = [] := List.length_eq_zero_iff.mp (by simpa [F.len] using hl)
    exact ⟨rfl, fun v hv => by simp [F.size] at hv⟩
  | cons b n ihb ihn =>
    intro p cs hl hr hD hW
    cases cs with
    | nil => simp [F.len] at hl; omega
    | cons c cs =>
      have hc := hr c (by simp)
      obtain ⟨hw, hd⟩ := roll hq hc.1 hc.2
      rw [List.flatMap_cons, hd, F.enc, List.cons_append, List.cons.injEq] at hD
      obtain ⟨hD1, hD2⟩ := hD
      obtain ⟨g1, hg1, hg2⟩ := wd_enc hq (q.length + 1) (ch q 0 c) (fun y hy => by have h3 := ch_kid hq hy; omega)
      rw [hg2] at hD2
      obtain ⟨rfl, hD3⟩ := F.enc_inj g1 b _ _ (by omega) hD2
      rw [List.flatMap_cons, hw, F.size, show 1 + g1.size + n.size = (g1.size + n.size) + 1 by omega, List.range'_succ, List.map_cons, List.cons_append, List.cons.injEq, List.range'_append_1.symm, List.map_append] at hW
      obtain ⟨hW1, hW2⟩ := hW
      have hlen : ((ch q 0 c).flatMap (wl q (q.length + 1))).length = ((List.range' (p + 1) g1.size).map (fun v : Nat => f (v : Int))).length := by
        rw [flat_len, hg2, F.enc_len, List.length_map, List.length_range']
      obtain ⟨hW3, hW4⟩ := List.append_inj hW2 hlen
      obtain ⟨hb1, hb2⟩ := ihb (p + 1) (ch q 0 c) hg1.symm (fun y hy => by have h3 := ch_kid hq hy; omega) hg2 hW3
      obtain ⟨hn1, hn2⟩ := ihn (p + 1 + g1.size) cs (by simp [F.len] at hl; omega) (fun y hy => hr y (List.mem_cons_of_mem _ hy)) hD3 hW4
      refine ⟨by rw [F.roots, List.map_cons, ← hn1, ← hW1], fun v hv => ?_⟩
      simp only [F.size] at hv
      by_cases e0 : v = 0
      · subst e0
        rw [F.sub_zero, Nat.add_zero, ← hW1]; exact hb1
      · by_cases e1 : v < 1 + g1.size
        · have h := hb2 (v - 1) (by omega)
          rw [F.sub_left (by omega) e1]
          rwa [show p + 1 + (v - 1) = p + v by omega] at h
        · have h := hn2 (v - 1 - g1.size) (by omega)
          rw [F.sub_right (by omega)]
          rwa [show p + 1 + g1.size + (v - 1 - g1.size) = p + v by omega] at h
end
/-- A tree with a growing order, and the list that ought to grow it. -/
structure Gro (d : List Int) (t : F) (l q : List Int) : Prop where
  h : Tree d t
  ho : isOrd t.size l
  hg : growing t l = true
  hl : q.length + 1 = t.size
  hq : ∀ j : Nat, j < q.length → q[j]? = some (idx (t.par 0 (-1) (rd l ((j + 1 : Nat) : Int)).toNat) l 0)
/-- The labels of the children of a node. -/
def kl (t : F) (l : List Int) (v : Nat) : List Int := ((t.sub v).roots (v + 1)).map (fun c => idx c l 0)
def whole (t : F) (l : List Int) : Bool := (List.range t.size).all fun v => asc (kl t l v)
namespace Gro
variable {d l q : List Int} {t : F}
theorem below (G : Gro d t l q) {v : Nat} (h1 : 1 ≤ v) (hv : v < t.size) : 0 ≤ t.par 0 (-1) v ∧ t.par 0 (-1) v < v ∧ 0 ≤ idx (t.par 0 (-1) v) l 0 ∧ idx (t.par 0 (-1) v) l 0 < idx (v : Int) l 0 := by
  have h2 := G.h.par_pos h1 hv
  have h3 := (grows_pos G.h G.ho).mp G.hg v h1 hv
  have h4 := rd_idx G.ho h2.1 (by omega)
  refine ⟨h2.1, h2.2, h4.1, ?_⟩
  have h5 : idx (t.par 0 (-1) v) l 0 ≠ idx (v : Int) l 0 := fun e => by
    have := idx_inj G.ho h2.1 (by omega) (by omega) (by omega) e
    omega
  omega
theorem zero (G : Gro d t l q) : rd l ((0 : Nat) : Int) = 0 ∧ idx 0 l 0 = 0 := by
  have hp := G.h.pos
  have h1 := isOrd_rd G.ho (i := 0) (by omega)
  have h2 := idx_rd G.ho (i := 0) (by omega)
  obtain ⟨v, hv⟩ := Int.eq_ofNat_of_zero_le h1.1
  rw [hv] at h1 h2 ⊢
  by_cases e : v = 0
  · subst e; exact ⟨rfl, h2⟩
  · have h3 := G.below (v := v) (by omega) (by omega)
    omega
theorem at_ (G : Gro d t l q) {j : Nat} (hj : j < q.length) : ∃ v : Nat, 1 ≤ v ∧ v < t.size ∧ rd l ((j + 1 : Nat) : Int) = (v : Int) ∧ idx (v : Int) l 0 = ((j + 1 : Nat) : Int) ∧ q[j]? = some (idx (t.par 0 (-1) v) l 0) := by
  have hl := G.hl
  have h1 := isOrd_rd G.ho (i := j + 1) (by omega)
  have h2 := idx_rd G.ho (i := j + 1) (by omega)
  have h3 := G.hq j hj
  obtain ⟨v, hv⟩ := Int.eq_ofNat_of_zero_le h1.1
  rw [hv] at h1 h2 h3 ⊢
  rw [Int.toNat_natCast] at h3
  have h4 : v ≠ 0 := fun e => by
    subst e
    have h5 := G.zero.2
    rw [show ((0 : Nat) : Int) = 0 from rfl] at h2
    omega
  exact ⟨v, by omega, by omega, rfl, h2, h3⟩
theorem grows (G : Gro d t l q) : Grows q := by
  intro j x hx
  obtain ⟨hj, -⟩ := List.getElem?_eq_some_iff.mp hx
  obtain ⟨v, h1, h2, h3, h4, h5⟩ := G.at_ hj
  rw [h5] at hx
  injection hx with hx
  have h6 := G.below h1 h2
  omega
theorem ch_iff (G : Gro d t l q) {v : Nat} (hv : v < t.size) (x : Int) : x ∈ ch q 0 (idx (v : Int) l 0) ↔ x ∈ kl t l v := by
  have hl := G.hl
  unfold kl
  rw [List.mem_map]
  constructor
  · intro hx
    obtain ⟨j, hj, rfl⟩ := ch_mem hx
    obtain ⟨hj2, -⟩ := List.getElem?_eq_some_iff.mp hj
    obtain ⟨u, h1, h2, h3, h4, h5⟩ := G.at_ hj2
    rw [h5] at hj
    injection hj with hj
    have h6 := G.below h1 h2
    have h7 := idx_inj G.ho h6.1 (by omega) (by omega) (by omega) hj
    exact ⟨(u : Int), (G.h.kids hv h2).mpr h7, by rw [h4, Nat.zero_add]⟩
  · rintro ⟨c, hc, rfl⟩
    have h1 := G.h.kid_range hv hc
    obtain ⟨u, rfl⟩ := Int.eq_ofNat_of_zero_le (show 0 ≤ c by omega)
    have h2 := (G.h.kids hv (by omega)).mp hc
    have h3 := G.below (v := u) (by omega) (by omega)
    have h4 := rd_idx G.ho (v := (u : Int)) (by omega) (by omega)
    obtain ⟨j, hj⟩ : ∃ j : Nat, idx (u : Int) l 0 = ((j + 1 : Nat) : Int) := ⟨(idx (u : Int) l 0).toNat - 1, by omega⟩
    obtain ⟨u', h5, h6, h7, h8, h9⟩ := G.at_ (j := j) (by omega)
    rw [hj] at h4
    have h10 : u' = u := by have := h4.2.2; omega
    subst h10
    rw [h2] at h9
    rw [hj]
    exact ch_of h9
theorem ch_eq (G : Gro d t l q) {v : Nat} (hv : v < t.size) : asc (kl t l v) = true ↔ ch q 0 (idx (v : Int) l 0) = kl t l v := by
  have hn : (kl t l v).Nodup := by
    unfold kl
    have h1 := roots_sorted (t.sub v) (v + 1)
    have h2 : ∀ c ∈ (t.sub v).roots (v + 1), 0 ≤ c ∧ c < (t.size : Int) := fun c hc => by have := G.h.kid_range hv hc; omega
    generalize (t.sub v).roots (v + 1) = r at h1 h2
    induction r with
    | nil => simp
    | cons a r ih =>
      rw [List.pairwise_cons] at h1
      rw [List.map_cons, List.nodup_cons]
      refine ⟨fun hm => ?_, ih h1.2 (fun c hc => h2 c (List.mem_cons_of_mem _ hc))⟩
      obtain ⟨b, hb, he⟩ := List.mem_map.mp hm
      have h3 := h2 a (by simp)
      have h4 := h2 b (List.mem_cons_of_mem _ hb)
      have h5 := idx_inj G.ho h4.1 h4.2 h3.1 h3.2 he
      have h6 := h1.1 b hb
      omega
  rw [asc_sorted _ hn]
  exact ⟨fun h => sorted_ext _ _ (ch_sorted _ _ _) h (fun x => G.ch_iff hv x), fun h => by rw [← h]; exact ch_sorted _ _ _⟩
theorem ext {a b : List Int} (hl : a.length = b.length) (h : ∀ i : Nat, i < a.length → rd a (i : Int) = rd b (i : Int)) : a = b := by
  refine List.ext_getElem hl (fun i h1 h2 => ?_)
  have := h i h1
  rwa [rd_getElem h1, rd_getElem h2] at this
theorem rd_map {n : Nat} {f : Int → Int} {i : Nat} (hi : i < n) : rd ((List.range' 0 n).map (fun v : Nat => f (v : Int))) (i : Int) = f (i : Int) := by
  rw [rd_getElem (by simp [hi])]; simp
theorem one (G : Gro d t l q) : t.roots 0 = [0] ∧ t.len = 1 := by
  obtain ⟨b, rfl⟩ := G.h.one
  exact ⟨rfl, rfl⟩
theorem main (G : Gro d t l q) : whole t l = true ↔ (wd q (q.length + 1) 0 = d ∧ place 0 (wl q (q.length + 1) 0) (List.replicate (q.length + 1) 0) = l) := by
  have hq := G.grows
  have hl := G.hl
  have h1 := G.one
  have h0 := G.zero.2
  have hll := G.ho.1
  have hen := G.h.enc
  have hrange : ∀ v : Nat, v < t.size → 0 ≤ idx (v : Int) l 0 ∧ idx (v : Int) l 0 ≤ (q.length : Int) := fun v hv => by have := rd_idx G.ho (v := (v : Int)) (by omega) (by omega); omega
  have hwhole : whole t l = true ↔ ∀ v : Nat, v < t.size → ch q 0 (idx (v : Int) l 0) = kl t l v := by
    unfold whole
    rw [List.all_eq_true]
    constructor
    · intro h v hv; exact (G.ch_eq hv).mp (h v (List.mem_range.mpr hv))
    · intro h v hv; exact (G.ch_eq (List.mem_range.mp hv)).mpr (h v (List.mem_range.mp hv))
  rw [hwhole]
  constructor
  · intro hP
    have hA := flat_all (f := fun c => idx c l 0) hq t 0 (fun v hv => by rw [Nat.zero_add]; exact hrange v hv) (fun v hv => by rw [Nat.zero_add]; exact hP v hv)
    rw [h1.1, List.map_cons, List.map_nil, h0, List.flatMap_cons, List.flatMap_nil, List.append_nil, List.flatMap_cons, List.flatMap_nil, List.append_nil] at hA
    refine ⟨hA.1.trans hen.symm, ?_⟩
    rw [hA.2]
    have hnd : ((List.range' 0 t.size).map (fun v : Nat => idx (v : Int) l 0)).Nodup := by rw [← hA.2]; exact (wl_perm hq _ (by omega)).nodup_iff.mpr (List.Pairwise.map _ (fun a b h => by omega) (List.nodup_range (n := q.length + 1)))
    refine ext (by rw [place_len, List.length_replicate]; omega) (fun i hi => ?_)
    rw [place_len, List.length_replicate] at hi
    have hi2 : i < t.size := by omega
    rw [place_rd _ _ _ _ hnd (fun x hx => by obtain ⟨v, hv, rfl⟩ := List.mem_map.mp hx; exact (hrange v (by have := List.mem_range'_1.mp hv; omega)).1) (by rw [List.length_replicate]; exact hi)]
    have h2 := isOrd_rd G.ho hi2
    have h3 := idx_rd G.ho hi2
    obtain ⟨v, hv⟩ := Int.eq_ofNat_of_zero_le h2.1
    have hm : (i : Int) ∈ (List.range' 0 t.size).map (fun v : Nat => idx (v : Int) l 0) := List.mem_map.mpr ⟨v, List.mem_range'_1.mpr (by omega), by rw [← hv]; exact h3⟩
    rw [if_pos hm]
    have h4 := (idx_mem (i : Int) _ 0).mpr hm
    have h5 := idx_get (i : Int) _ 0 h4
    have h6 := idx_range (i : Int) ((List.range' 0 t.size).map (fun v : Nat => idx (v : Int) l 0)) 0
    obtain ⟨w, hw⟩ := Int.eq_ofNat_of_zero_le h4
    rw [hw] at h5 h6 ⊢
    have hwn : w < t.size := by rw [List.length_map, List.length_range'] at h6; omega
    rw [show ((w : Int) - ((0 : Nat) : Int)) = (w : Int) by omega, rd_map (f := fun c => idx c l 0) hwn] at h5
    have h7 := (rd_idx G.ho (v := (w : Int)) (by omega) (by omega)).2.2
    rw [← h7]
    exact congrArg (rd l) h5
  · rintro ⟨hd, hp⟩ v hv
    have hperm := wl_perm hq (q.length + 1) (by omega)
    have hol : isOrd t.size (wl q (q.length + 1) 0) := ⟨by rw [wl_len hq _ (by omega)]; exact hl, hperm.nodup_iff.mpr (List.Pairwise.map _ (fun a b h => by omega) (List.nodup_range (n := q.length + 1))), fun x hx => by have := wl_mem hq _ 0 x (by omega) hx; omega⟩
    have hL : wl q (q.length + 1) 0 = (List.range' 0 t.size).map (fun v : Nat => idx (v : Int) l 0) := by
      refine ext (by rw [hol.1, List.length_map, List.length_range']) (fun i hi => ?_)
      rw [hol.1] at hi
      rw [rd_map (f := fun c => idx c l 0) hi]
      have h2 := isOrd_rd hol hi
      have h3 := idx_rd hol hi
      obtain ⟨x, hx⟩ := Int.eq_ofNat_of_zero_le h2.1
      rw [hx] at h2 h3 ⊢
      have h4 : rd l (x : Int) = (i : Int) := by
        rw [← hp, place_rd _ _ _ _ hol.2.1 (fun y hy => (hol.2.2 y hy).1) (by rw [List.length_replicate]; omega), if_pos ((isOrd_mem hol).mpr (by omega))]
        exact h3
      have h5 := idx_rd G.ho (i := x) (by omega)
      rw [h4] at h5
      exact h5.symm
    have hB := flat_back (f := fun c => idx c l 0) hq t 0 [0] (by rw [h1.2]; rfl) (fun c hc => by rw [List.mem_singleton] at hc; omega) (by rw [List.flatMap_cons, List.flatMap_nil, List.append_nil, hd]; exact hen) (by rw [List.flatMap_cons, List.flatMap_nil, List.append_nil, hL])
    have h := hB.2 v hv
    rw [Nat.zero_add] at h
    exact h
end Gro
end Go.Proofs.Yteangdgmokkjbab.Lg
