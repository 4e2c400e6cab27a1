import Derived.Test.YtlppkilencpmeaaQFnTopx
import Derived.Test.YtlppkilencpmeaaTr
import Derived.Test.YtlppkilencpmeaaNd
import Derived.Test.YtlppkilencpmeaaGr
import Derived.Test.YtlppkilencpmeaaIx
import Derived.Test.YtlppkilencpmeaaGs
import Derived.Test.YtlppkilencpmeaaEd
import Derived.Test.YtlppkilencpmeaaKe
import Derived.Test.YtlppkilencpmeaaGt
import Derived.Test.YtlppkilencpmeaaCt
import Derived.Laws.Bits64b
/- Orders of a tree's nodes: the numbers 0..n-1, each once. Plain mathematics, no program in sight. -/
namespace Go.Proofs.Ytlppkilencpmeaa.Tr
open Go.RowKit Go.Proofs.YtlppkilencpmeaaW.PrintWords
set_option linter.unusedSimpArgs false
set_option linter.unusedVariables false

def isOrd (n : Nat) (l : List Int) : Prop := l.length = n ∧ l.Nodup ∧ ∀ x ∈ l, 0 ≤ x ∧ x < n
instance (n : Nat) (l : List Int) : Decidable (isOrd n l) := by unfold isOrd; infer_instance
def msort (l : List Int) : List Int := l.mergeSort fun x y => decide (x ≤ y)
theorem msort_len (l : List Int) : (msort l).length = l.length := List.length_mergeSort _
theorem msort_perm (l : List Int) : (msort l).Perm l := List.mergeSort_perm _ _
theorem msort_sorted (l : List Int) : (msort l).Pairwise (fun x y => x ≤ y) := by
  have := List.pairwise_mergeSort (le := fun x y : Int => decide (x ≤ y)) (by intro a b c; simp; omega) (by intro a b; simp; omega) l
  exact this.imp (by intro a b h; simpa using h)
/-- Whole numbers in strict order, as many as there is room for. -/
theorem strict_full : ∀ (s : List Int) (a : Nat), s.Pairwise (fun x y => x < y) → (∀ x ∈ s, (a : Int) ≤ x ∧ x < ((a + s.length : Nat) : Int)) → s = (List.range' a s.length).map (fun v : Nat => (v : Int)) := by
  intro s
  induction s with
  | nil => intro a _ _; rfl
  | cons x s ih =>
    intro a hp hr
    rw [List.pairwise_cons] at hp
    have h1 := ih (a + 1) hp.2 (by
      intro y hy
      have q := hp.1 y hy
      have q1 := hr x (by simp)
      have q2 := hr y (by simp [hy])
      simp only [List.length_cons] at q2
      omega)
    have hx : x = (a : Int) := by
      have q1 := hr x (by simp)
      simp only [List.length_cons] at q1
      cases s with
      | nil => simp only [List.length_nil] at q1; omega
      | cons y s' =>
        have : ((a + 1 : Nat) : Int) ∈ y :: s' := by rw [h1]; simp [List.range'_succ]
        have := hp.1 _ this
        omega
    simp only [List.length_cons, List.range'_succ, List.map_cons]
    rw [← h1, hx]
theorem upto_range (n : Nat) : upto n = (List.range' 0 n).map (fun v : Nat => (v : Int)) := by
  unfold upto each; rw [List.range_eq_range']
theorem upto_nodup (n : Nat) : (upto n).Nodup := by
  rw [upto_range]
  refine List.Pairwise.map _ ?_ (List.nodup_range' (s := 0) (n := n))
  intro a b h; omega
theorem isOrd_sort {n : Nat} {l : List Int} : isOrd n l ↔ l.length = n ∧ msort l = upto n := by
  constructor
  · rintro ⟨h1, h2, h3⟩
    refine ⟨h1, ?_⟩
    have hn : (msort l).Nodup := (msort_perm l).nodup_iff.mpr h2
    have hp : (msort l).Pairwise (fun x y => x < y) := by
      have := List.Pairwise.and (msort_sorted l) hn
      exact this.imp (by intro a b h; omega)
    have := strict_full (msort l) 0 hp (by
      intro x hx
      have := h3 x ((msort_perm l).mem_iff.mp hx)
      rw [msort_len, h1]; omega)
    rw [this, msort_len, h1, upto_range]
  · rintro ⟨h1, h2⟩
    refine ⟨h1, ?_, ?_⟩
    · rw [← (msort_perm l).nodup_iff, h2]; exact upto_nodup n
    · intro x hx
      rw [← (msort_perm l).mem_iff, h2, upto_mem] at hx
      exact hx
theorem isOrd_mem {n : Nat} {l : List Int} (h : isOrd n l) {v : Int} : v ∈ l ↔ 0 ≤ v ∧ v < n := by
  rw [← (msort_perm l).mem_iff, (isOrd_sort.mp h).2, upto_mem]
theorem upto_rd {n i : Nat} (h : i < n) : rd (upto n) (i : Int) = i := each_rd h
/-- The place of x in a list made of two. -/
theorem idx_left (x : Int) : ∀ (a b : List Int) (i : Nat), x ∈ a → idx x (a ++ b) i = idx x a i := by
  intro a
  induction a with
  | nil => intro b i h; simp at h
  | cons y a ih =>
    intro b i h
    simp only [List.cons_append, idx]
    split
    · rfl
    · rename_i hne
      exact ih b (i + 1) (by simpa [hne] using h)
theorem idx_right (x : Int) : ∀ (a b : List Int) (i : Nat), x ∉ a → idx x (a ++ b) i = idx x b (i + a.length) := by
  intro a
  induction a with
  | nil => intro b i h; simp
  | cons y a ih =>
    intro b i h
    simp only [List.mem_cons, not_or] at h
    simp only [List.cons_append, idx, if_neg h.1, List.length_cons]
    rw [ih b (i + 1) h.2]
    congr 1; omega
theorem idx_at {x : Int} {a b : List Int} (h : x ∉ a) : idx x (a ++ x :: b) 0 = a.length := by
  rw [idx_right x a (x :: b) 0 h]; simp [idx]
/-- Every node comes behind its parent. -/
def grows (t : F) : List Int → List Int → Bool
  | _, [] => true
  | pre, x :: r => (decide (t.par 0 (-1) x.toNat < 0) || decide (t.par 0 (-1) x.toNat ∈ pre)) && grows t (pre ++ [x]) r
theorem grows_iff (t : F) : ∀ (r pre : List Int), grows t pre r = true ↔ ∀ a x b, r = a ++ x :: b → t.par 0 (-1) x.toNat < 0 ∨ t.par 0 (-1) x.toNat ∈ pre ++ a := by
  intro r
  induction r with
  | nil => intro pre; simp [grows]
  | cons y r ih =>
    intro pre
    simp only [grows, Bool.and_eq_true, Bool.or_eq_true, decide_eq_true_eq, ih]
    constructor
    · rintro ⟨h1, h2⟩ a x b hab
      cases a with
      | nil =>
        simp only [List.nil_append, List.cons.injEq] at hab
        obtain ⟨rfl, rfl⟩ := hab
        simpa using h1
      | cons z a =>
        simp only [List.cons_append, List.cons.injEq] at hab
        obtain ⟨rfl, rfl⟩ := hab
        have := h2 a x b rfl
        simpa [List.append_assoc] using this
    · intro h
      refine ⟨by simpa using h [] y r rfl, ?_⟩
      intro a x b hab
      have := h (y :: a) x b (by rw [hab]; rfl)
      simpa [List.append_assoc] using this
/-- The same, told by the places of the nodes. -/
theorem grows_pos {d : List Int} {t : F} (h : Tree d t) {l : List Int} (ho : isOrd t.size l) : grows t [] l = true ↔ ∀ v : Nat, 1 ≤ v → v < t.size → idx (t.par 0 (-1) v) l 0 ≤ idx (v : Int) l 0 := by
  rw [grows_iff]
  constructor
  · intro hg v h1 h2
    have hm : (v : Int) ∈ l := (isOrd_mem ho).mpr (by omega)
    obtain ⟨a, b, rfl, hna⟩ := List.eq_append_cons_of_mem hm
    rw [idx_at hna]
    have hp := h.par_pos h1 h2
    rcases hg a v b rfl with q | q
    · simp only [Int.toNat_natCast] at q; omega
    · simp only [Int.toNat_natCast, List.nil_append] at q
      rw [idx_left _ _ _ _ q]
      have := idx_range (t.par 0 (-1) v) a 0
      omega
  · intro hp a x b hab
    subst hab
    have hx := (isOrd_mem ho (v := x)).mp (by simp)
    have hnd : x ∉ a := by
      have := ho.2.1
      rw [List.nodup_append] at this
      intro hxa
      exact this.2.2 x hxa x (by simp) rfl
    obtain ⟨v, rfl⟩ := Int.eq_ofNat_of_zero_le hx.1
    have hv : v < t.size := by omega
    simp only [Int.toNat_natCast, List.nil_append]
    by_cases h0 : v = 0
    · subst h0; left; have := h.par_zero; omega
    · have hq := hp v (by omega) hv
      have hpar := h.par_pos (by omega : 1 ≤ v) hv
      by_cases hin : t.par 0 (-1) v ∈ a
      · exact .inr hin
      · exfalso
        have hmem : t.par 0 (-1) v ∈ a ++ (v : Int) :: b := (isOrd_mem ho).mpr (by omega)
        have hge := (idx_mem (t.par 0 (-1) v) (a ++ (v : Int) :: b) 0).mpr hmem
        rw [idx_right _ _ _ _ hin] at hq hge
        rw [idx_at hnd] at hq
        simp only [idx] at hq hge
        rw [if_neg (by omega)] at hq hge
        have := idx_range (t.par 0 (-1) v) b (0 + a.length + 1)
        omega
/-- The labels: each node's place. -/
def labels (l : List Int) (n : Nat) : List Int := each n (fun v => idx (v : Int) l 0)
/-- The answer to an order: 0, 1 (no tree), 2 (no order). -/
def codeO (d l : List Int) : Int := if isT d = true then (if isOrd d.length l then 0 else 2) else 1
def growing (t : F) (l : List Int) : Bool := grows t [] l
theorem isOrd_rd {n : Nat} {l : List Int} (h : isOrd n l) {i : Nat} (hi : i < n) : 0 ≤ rd l (i : Int) ∧ rd l (i : Int) < n :=
  h.2.2 _ (rd_mem (by omega) (by have := h.1; omega))
end Go.Proofs.Ytlppkilencpmeaa.Tr

/- The list that grows a tree in an order: it does so if the children of each node come in the order of their labels. Plain mathematics, no program in sight. -/
namespace Go.Proofs.Ytlppkilencpmeaa.Lg
open Go.RowKit Go.Proofs.YtlppkilencpmeaaW.PrintWords Go.Proofs.Ytlppkilencpmeaa.Tr Go.Proofs.Ytlppkilencpmeaa.Gt
set_option linter.unusedSimpArgs false
set_option linter.unusedVariables false

/-- No number is less than the one ahead of it. -/
def asc : List Int → Bool
  | x :: y :: r => decide (¬ x > y) && asc (y :: r)
  | _ => true
theorem roll {q : List Int} (hq : Grows q) {l : Int} (h0 : 0 ≤ l) (h1 : l ≤ (q.length : Int)) : wl q (q.length + 1) l = l :: (ch q 0 l).flatMap (wl q (q.length + 1)) ∧ wd q (q.length + 1) l = ((ch q 0 l).length : Int) :: (ch q 0 l).flatMap (wd q (q.length + 1)) := by
  have hf : ∀ c ∈ ch q 0 l, wl q q.length c = wl q (q.length + 1) c ∧ wd q q.length c = wd q (q.length + 1) c := fun c hc => by
    have h3 := ch_kid hq hc
    exact fuel hq q.length (q.length + 1) c (by omega) (by omega) (by omega)
  exact ⟨congrArg (l :: ·) (flat_congr _ (fun c hc => (hf c hc).1)), congrArg (((ch q 0 l).length : Int) :: ·) (flat_congr _ (fun c hc => (hf c hc).2))⟩
theorem wd_enc {q : List Int} (hq : Grows q) : ∀ (m : Nat) (cs : List Int), (∀ c ∈ cs, c ≤ (q.length : Int) ∧ (q.length : Int) - c < m) → ∃ f : F, f.len = cs.length ∧ cs.flatMap (wd q m) = f.enc := by
  intro m
  induction m with
  | zero =>
    intro cs h
    cases cs with
    | nil => exact ⟨.nil, rfl, rfl⟩
    | cons c cs => have := h c (by simp); omega
  | succ m ih =>
    intro cs
    induction cs with
    | nil => intro _; exact ⟨.nil, rfl, rfl⟩
    | cons c cs ihc =>
      intro h
      obtain ⟨g, hg1, hg2⟩ := ihc (fun y hy => h y (List.mem_cons_of_mem _ hy))
      have hc := h c (by simp)
      obtain ⟨f, hf1, hf2⟩ := ih (ch q 0 c) (fun y hy => by have h3 := ch_kid hq hy; omega)
      refine ⟨.cons f g, by simp [F.len, hg1]; omega, ?_⟩
      rw [List.flatMap_cons, hg2, wd, hf2, F.enc, hf1]
      rfl
theorem place_rd : ∀ (L : List Int) (b : Nat) (G : List Int) (i : Nat), L.Nodup → (∀ x ∈ L, 0 ≤ x) → i < G.length → rd (place b L G) (i : Int) = if (i : Int) ∈ L then idx (i : Int) L b else rd G (i : Int) := by
  intro L
  induction L with
  | nil => intro b G i _ _ _; simp [place]
  | cons x L ih =>
    intro b G i hn h0 hi
    rw [List.nodup_cons] at hn
    have hx := h0 x (by simp)
    rw [place, ih (b + 1) _ i hn.2 (fun y hy => h0 y (List.mem_cons_of_mem _ hy)) (by rw [List.length_set]; exact hi), rd_set hi hx, idx]
    by_cases hm : (i : Int) ∈ L
    · have hne : (i : Int) ≠ x := fun e => hn.1 (by rw [← e]; exact hm)
      rw [if_pos hm, if_pos (List.mem_cons_of_mem _ hm), if_neg hne]
    · rw [if_neg hm]
      by_cases he : (i : Int) = x
      · rw [if_pos he, if_pos he.symm, if_pos (show (i : Int) ∈ x :: L by rw [he]; simp)]
      · rw [if_neg (fun e => he e.symm), if_neg (show ¬ (i : Int) ∈ x :: L by simp [hm, he])]
theorem idx_rd {n : Nat} {l : List Int} (ho : isOrd n l) {i : Nat} (hi : i < n) : idx (rd l (i : Int)) l 0 = i := by
  have hl := ho.1
  have hm : rd l (i : Int) ∈ l := rd_mem (by omega) (by omega)
  have h1 := (idx_mem (rd l (i : Int)) l 0).mpr hm
  have h2 := idx_get (rd l (i : Int)) l 0 h1
  have h3 := idx_range (rd l (i : Int)) l 0
  obtain ⟨j, hj⟩ := Int.eq_ofNat_of_zero_le h1
  rw [hj] at h2 h3 ⊢
  have hjn : j < l.length := by omega
  rw [show ((j : Int) - ((0 : Nat) : Int)) = (j : Int) by omega, rd_getElem hjn, rd_getElem (by omega : i < l.length)] at h2
  have h4 := (List.getElem_inj ho.2.1).mp h2
  omega
theorem rd_idx {n : Nat} {l : List Int} (ho : isOrd n l) {v : Int} (h0 : 0 ≤ v) (h1 : v < n) : 0 ≤ idx v l 0 ∧ idx v l 0 < n ∧ rd l (idx v l 0) = v := by
  have hm := (isOrd_mem ho).mpr ⟨h0, h1⟩
  have h2 := (idx_mem v l 0).mpr hm
  have h3 := idx_get v l 0 h2
  have h4 := idx_range v l 0
  have hl := ho.1
  rw [show (idx v l 0 - ((0 : Nat) : Int)) = idx v l 0 by omega] at h3
  exact ⟨h2, by omega, h3⟩
theorem idx_inj {n : Nat} {l : List Int} (ho : isOrd n l) {u v : Int} (h0 : 0 ≤ u) (h1 : u < n) (h2 : 0 ≤ v) (h3 : v < n) (h : idx u l 0 = idx v l 0) : u = v := by
  have h4 := (rd_idx ho h0 h1).2.2
  have h5 := (rd_idx ho h2 h3).2.2
  rw [h] at h4
  exact h4.symm.trans h5
theorem flat_len (q : List Int) (m : Nat) (cs : List Int) : (cs.flatMap (wl q m)).length = (cs.flatMap (wd q m)).length := by
  induction cs with
  | nil => rfl
  | cons c cs ih => rw [List.flatMap_cons, List.flatMap_cons, List.length_append, List.length_append, ih, wd_len]
section
variable {q : List Int} {f : Int → Int}
theorem flat_back (hq : Grows q) : ∀ (g : F) (p : Nat) (cs : List Int), cs.length = g.len → (∀ c ∈ cs, 0 ≤ c ∧ c ≤ (q.length : Int)) → cs.flatMap (wd q (q.length + 1)) = g.enc → cs.flatMap (wl q (q.length + 1)) = (List.range' p g.size).map (fun v : Nat => f (v : Int)) →
    cs = (g.roots p).map f ∧ ∀ v : Nat, v < g.size → ch q 0 (f ((p + v : Nat) : Int)) = ((g.sub v).roots (p + v + 1)).map f := by
  intro g
  induction g with
  | nil =>
    intro p cs hl _ _ _
    obtain rfl : cs = [] := List.length_eq_zero_iff.mp (by simpa [F.len] using hl)
    exact ⟨rfl, fun v hv => by simp [F.size] at hv⟩
  | cons b n ihb ihn =>
    intro p cs hl hr hD hW
    cases cs with
    | nil => simp [F.len] at hl; omega
    | cons c cs =>
      have hc := hr c (by simp)
      obtain ⟨hw, hd⟩ := roll hq hc.1 hc.2
      rw [List.flatMap_cons, hd, F.enc, List.cons_append, List.cons.injEq] at hD
      obtain ⟨hD1, hD2⟩ := hD
      obtain ⟨g1, hg1, hg2⟩ := wd_enc hq (q.length + 1) (ch q 0 c) (fun y hy => by have h3 := ch_kid hq hy; omega)
      rw [hg2] at hD2
      obtain ⟨rfl, hD3⟩ := F.enc_inj g1 b _ _ (by omega) hD2
      rw [List.flatMap_cons, hw, F.size, show 1 + g1.size + n.size = (g1.size + n.size) + 1 by omega, List.range'_succ, List.map_cons, List.cons_append, List.cons.injEq, List.range'_append_1.symm, List.map_append] at hW
      obtain ⟨hW1, hW2⟩ := hW
      have hlen : ((ch q 0 c).flatMap (wl q (q.length + 1))).length = ((List.range' (p + 1) g1.size).map (fun v : Nat => f (v : Int))).length := by
        rw [flat_len, hg2, F.enc_len, List.length_map, List.length_range']
      obtain ⟨hW3, hW4⟩ := List.append_inj hW2 hlen
      obtain ⟨hb1, hb2⟩ := ihb (p + 1) (ch q 0 c) hg1.symm (fun y hy => by have h3 := ch_kid hq hy; omega) hg2 hW3
      obtain ⟨hn1, hn2⟩ := ihn (p + 1 + g1.size) cs (by simp [F.len] at hl; omega) (fun y hy => hr y (List.mem_cons_of_mem _ hy)) hD3 hW4
      refine ⟨by rw [F.roots, List.map_cons, ← hn1, ← hW1], fun v hv => ?_⟩
      simp only [F.size] at hv
      by_cases e0 : v = 0
      · subst e0
        rw [F.sub_zero, Nat.add_zero, ← hW1]; exact hb1
      · by_cases e1 : v < 1 + g1.size
        · have h := hb2 (v - 1) (by omega)
          rw [F.sub_left (by omega) e1]
          rwa [show p + 1 + (v - 1) = p + v by omega] at h
        · have h := hn2 (v - 1 - g1.size) (by omega)
          rw [F.sub_right (by omega)]
          rwa [show p + 1 + g1.size + (v - 1 - g1.size) = p + v by omega] at h
end
/-- A tree with a growing order, and the list that ought to grow it. -/
structure Gro (d : List Int) (t : F) (l q : List Int) : Prop where
  h : Tree d t
  ho : isOrd t.size l
  hg : growing t l = true
  hl : q.length + 1 = t.size
  hq : ∀ j : Nat, j < q.length → q[j]? = some (idx (t.par 0 (-1) (rd l ((j + 1 : Nat) : Int)).toNat) l 0)
/-- The labels of the children of a node. -/
def kl (t : F) (l : List Int) (v : Nat) : List Int := ((t.sub v).roots (v + 1)).map (fun c => idx c l 0)
def whole (t : F) (l : List Int) : Bool := (List.range t.size).all fun v => asc (kl t l v)
namespace Gro
variable {d l q : List Int} {t : F}
theorem below (G : Gro d t l q) {v : Nat} (h1 : 1 ≤ v) (hv : v < t.size) : 0 ≤ t.par 0 (-1) v ∧ t.par 0 (-1) v < v ∧ 0 ≤ idx (t.par 0 (-1) v) l 0 ∧ idx (t.par 0 (-1) v) l 0 < idx (v : Int) l 0 := by
  have h2 := G.h.par_pos h1 hv
  have h3 := (grows_pos G.h G.ho).mp G.hg v h1 hv
  have h4 := rd_idx G.ho h2.1 (by omega)
  refine ⟨h2.1, h2.2, h4.1, ?_⟩
  have h5 : idx (t.par 0 (-1) v) l 0 ≠ idx (v : Int) l 0 := fun e => by
    have := idx_inj G.ho h2.1 (by omega) (by omega) (by omega) e
    omega
  omega
theorem zero (G : Gro d t l q) : rd l ((0 : Nat) : Int) = 0 ∧ idx 0 l 0 = 0 := by
  have hp := G.h.pos
  have h1 := isOrd_rd G.ho (i := 0) (by omega)
  have h2 := idx_rd G.ho (i := 0) (by omega)
  obtain ⟨v, hv⟩ := Int.eq_ofNat_of_zero_le h1.1
  rw [hv] at h1 h2 ⊢
  by_cases e : v = 0
  · subst e; exact ⟨rfl, h2⟩
  · have h3 := G.below (v := v) (by omega) (by omega)
    omega
theorem at_ (G : Gro d t l q) {j : Nat} (hj : j < q.length) : ∃ v : Nat, 1 ≤ v ∧ v < t.size ∧ rd l ((j + 1 : Nat) : Int) = (v : Int) ∧ idx (v : Int) l 0 = ((j + 1 : Nat) : Int) ∧ q[j]? = some (idx (t.par 0 (-1) v) l 0) := by
  have hl := G.hl
  have h1 := isOrd_rd G.ho (i := j + 1) (by omega)
  have h2 := idx_rd G.ho (i := j + 1) (by omega)
  have h3 := G.hq j hj
  obtain ⟨v, hv⟩ := Int.eq_ofNat_of_zero_le h1.1
  rw [hv] at h1 h2 h3 ⊢
  rw [Int.toNat_natCast] at h3
  have h4 : v ≠ 0 := fun e => by
    subst e
    have h5 := G.zero.2
    rw [show ((0 : Nat) : Int) = 0 from rfl] at h2
    omega
  exact ⟨v, by omega, by omega, rfl, h2, h3⟩
theorem grows (G : Gro d t l q) : Grows q := by
  intro j x hx
  obtain ⟨hj, -⟩ := List.getElem?_eq_some_iff.mp hx
  obtain ⟨v, h1, h2, h3, h4, h5⟩ := G.at_ hj
  rw [h5] at hx
  injection hx with hx
  have h6 := G.below h1 h2
  omega
theorem ext {a b : List Int} (hl : a.length = b.length) (h : ∀ i : Nat, i < a.length → rd a (i : Int) = rd b (i : Int)) : a = b := by
  refine List.ext_getElem hl (fun i h1 h2 => ?_)
  have := h i h1
  rwa [rd_getElem h1, rd_getElem h2] at this
theorem one (G : Gro d t l q) : t.roots 0 = [0] ∧ t.len = 1 := by
  obtain ⟨b, rfl⟩ := G.h.one
  exact ⟨rfl, rfl⟩
end Gro
end Go.Proofs.Ytlppkilencpmeaa.Lg

/- Trees and their mirrors, contours and texts; a tree that a list grows is grown in its order. Plain mathematics, no program in sight. -/
namespace Go.Proofs.Ytlppkilencpmeaa.Tr
open Go.RowKit Go.Proofs.YtlppkilencpmeaaW.PrintWords
set_option linter.unusedSimpArgs false
set_option linter.unusedVariables false
namespace F
theorem mir_len : ∀ f : F, f.mir.len = f.len := by
  intro f
  induction f with
  | nil => rfl
  | cons b n hb hn => simp only [mir, len, app_len, hn]; omega
theorem prod_app : ∀ f g : F, (f.app g).prod = f.prod * g.prod := by
  intro f g
  induction f with
  | nil => simp [app, prod]
  | cons b n _ hn => simp only [app, prod, hn]; ac_rfl
theorem mir_prod : ∀ f : F, f.mir.prod = f.prod := by
  intro f
  induction f with
  | nil => rfl
  | cons b n hb hn => simp only [mir, prod, prod_app, hb, hn, mir_size]; ac_rfl
theorem pc_comm (s : Nat) : ∀ x y : F, x.size + y.size ≤ s → pc x y = pc y x := by
  induction s with
  | zero =>
    intro x y h
    obtain rfl := size_zero (f := x) (by omega)
    rw [pc_nil, pc_nil2]
  | succ s ih =>
    intro x y h
    cases x with
    | nil => rw [pc_nil, pc_nil2]
    | cons b n =>
      cases y with
      | nil => rw [pc_nil, pc_nil2]
      | cons b' n' =>
        simp only [size] at h
        have h1 := ih b b' (by omega)
        have h2 := ih n n' (by omega)
        have h3 := ih (b.app n) (cons b' n') (by simp only [size, app_size]; omega)
        have h4 := ih (cons b n) (b'.app n') (by simp only [size, app_size]; omega)
        rw [pc_cons, pc_cons b' n' b n, h1, h2, h3, h4]
        omega
/-- What a contour says behind a node of the depth k. -/
def cr : F → Int → List Int
  | nil, _ => []
  | cons b n, k => (k + 1) :: (cr b (k + 1) ++ k :: cr n k)
theorem cr_len : ∀ (f : F) (k : Int), (f.cr k).length = 2 * f.size := by
  intro f
  induction f with
  | nil => intro k; rfl
  | cons b n hb hn => intro k; simp only [cr, size, List.length_cons, List.length_append, hb, hn]; omega
theorem cr_in : ∀ (f : F) (k : Int), ∀ x ∈ f.cr k, k ≤ x ∧ x ≤ k + f.size := by
  intro f
  induction f with
  | nil => intro k x h; simp [cr] at h
  | cons b n hb hn =>
    intro k x h
    simp only [cr, List.mem_cons, List.mem_append] at h
    simp only [size]
    rcases h with h | h | h | h
    · omega
    · have := hb _ x h; omega
    · omega
    · have := hn _ x h; omega
/-- The text of the trees. -/
def txt : F → List UInt8
  | nil => []
  | cons b n => 40 :: (txt b ++ 41 :: txt n)
theorem txt_len : ∀ (f : F), f.txt.length = 2 * f.size := by
  intro f
  induction f with
  | nil => rfl
  | cons b n hb hn => simp only [txt, size, List.length_cons, List.length_append, hb, hn]; omega
end F
/-- The numbers that are one more than those ahead of them. -/
def ups : Int → List Int → List Int
  | _, [] => []
  | p, x :: r => if x = p + 1 then x :: ups x r else ups x r
theorem ups_cr : ∀ (f : F) (k : Int) (s : List Int), ups k (f.cr k ++ s) = f.depths (k + 1) ++ ups k s := by
  intro f
  induction f with
  | nil => intro k s; rfl
  | cons b n hb hn =>
    intro k s
    have e : (F.cons b n).cr k ++ s = (k + 1) :: (b.cr (k + 1) ++ (k :: (n.cr k ++ s))) := by simp [F.cr]
    rw [e, ups, if_pos rfl, hb, ups, if_neg (by omega), hn, F.depths]
    simp
theorem depths_ge : ∀ (f : F) (k : Int), ∀ x ∈ f.depths k, k ≤ x := by
  intro f
  induction f with
  | nil => intro k x h; simp [F.depths] at h
  | cons b n hb hn =>
    intro k x h
    rw [F.depths, List.mem_cons, List.mem_append] at h
    rcases h with h | h | h
    · omega
    · have := hb _ x h; omega
    · exact hn _ x h
theorem depths_le : ∀ (f : F) (k : Int), ∀ x ∈ f.depths k, x < k + f.size := by
  intro f
  induction f with
  | nil => intro k x h; simp [F.depths] at h
  | cons b n hb hn =>
    intro k x h
    rw [F.depths, List.mem_cons, List.mem_append] at h
    simp only [F.size]
    rcases h with h | h | h
    · omega
    · have := hb _ x h; omega
    · have := hn _ x h; omega
/-- A tree mirrored. -/
theorem Tree.mir {d : List Int} {t : F} (h : Tree d t) : Tree t.mir.enc t.mir := by
  obtain ⟨rfl, ⟨b, rfl⟩, hf⟩ := h
  exact ⟨rfl, ⟨b.mir, rfl⟩, by rw [F.mir_size]; exact hf⟩
end Go.Proofs.Ytlppkilencpmeaa.Tr
namespace Go.Proofs.Ytlppkilencpmeaa.Lg
open Go.RowKit Go.Proofs.YtlppkilencpmeaaW.PrintWords Go.Proofs.Ytlppkilencpmeaa.Tr Go.Proofs.Ytlppkilencpmeaa.Gt
set_option linter.unusedSimpArgs false
set_option linter.unusedVariables false
/-- What a list grows is a tree, and the order of the labels grows it. -/
theorem grown {q : List Int} (hq : Grows q) (hn : q.length ≤ 23) : ∃ t, Tree (wd q (q.length + 1) 0) t ∧ t.size = q.length + 1 ∧ isOrd t.size (place 0 (wl q (q.length + 1) 0) (List.replicate (q.length + 1) 0)) ∧ growing t (place 0 (wl q (q.length + 1) 0) (List.replicate (q.length + 1) 0)) = true := by
  obtain ⟨t, ht1, ht2⟩ := wd_enc hq (q.length + 1) [0] (by simp; omega)
  simp only [List.flatMap_cons, List.flatMap_nil, List.append_nil] at ht2
  have hlen : (wl q (q.length + 1) 0).length = q.length + 1 := wl_len hq _ (by omega)
  have hsz : t.size = q.length + 1 := by rw [← F.enc_len, ← ht2, wd_len, hlen]
  have hT : Tree (wd q (q.length + 1) 0) t := ⟨ht2, by
    cases t with
    | nil => simp [F.len] at ht1
    | cons b n =>
      obtain rfl := F.len_zero (f := n) (by simp [F.len] at ht1; omega)
      exact ⟨b, rfl⟩, by omega⟩
  have hperm := wl_perm hq (q.length + 1) (by omega)
  have hnd : (wl q (q.length + 1) 0).Nodup := hperm.nodup_iff.mpr (List.Pairwise.map _ (fun a b h => by omega) (List.nodup_range (n := q.length + 1)))
  have hmem : ∀ x, x ∈ wl q (q.length + 1) 0 ↔ 0 ≤ x ∧ x ≤ (q.length : Int) := fun x => by
    rw [hperm.mem_iff, List.mem_map]
    constructor
    · rintro ⟨y, hy, rfl⟩; have := List.mem_range.mp hy; omega
    · rintro ⟨h0, h1⟩; exact ⟨x.toNat, List.mem_range.mpr (by omega), by omega⟩
  generalize hW : wl q (q.length + 1) 0 = W at *
  have hrd : ∀ i : Nat, i < q.length + 1 → rd (place 0 W (List.replicate (q.length + 1) 0)) (i : Int) = idx (i : Int) W 0 := fun i hi => by
    rw [place_rd W 0 _ i hnd (fun x hx => ((hmem x).mp hx).1) (by simpa using hi), if_pos ((hmem _).mpr (by omega))]
  have hWo : isOrd (q.length + 1) W := ⟨hlen, hnd, fun x hx => by have := (hmem x).mp hx; omega⟩
  have hpl : (place 0 W (List.replicate (q.length + 1) 0)).length = q.length + 1 := by rw [place_len]; simp
  generalize hL : place 0 W (List.replicate (q.length + 1) 0) = L at *
  -- the label of the node v is W[v]
  have hrl : ∀ i : Nat, i < q.length + 1 → 0 ≤ rd L (i : Int) ∧ rd L (i : Int) < ((q.length + 1 : Nat) : Int) ∧ rd W (rd L (i : Int)) = (i : Int) := fun i hi => by
    rw [hrd i hi]; exact rd_idx hWo (by omega) (by omega)
  have hLo : isOrd (q.length + 1) L := by
    refine ⟨hpl, ?_, fun x hx => ?_⟩
    · rw [List.nodup_iff_pairwise_ne, List.pairwise_iff_getElem]
      intro i j hi hj hij he
      have h1 := (hrl i (by omega)).2.2
      have h2 := (hrl j (by omega)).2.2
      rw [rd_getElem hi] at h1
      rw [rd_getElem hj] at h2
      rw [he] at h1
      omega
    · obtain ⟨i, hi, rfl⟩ := List.getElem_of_mem hx
      have h1 := hrl i (by omega)
      rw [rd_getElem (by omega)] at h1
      exact ⟨h1.1, h1.2.1⟩
  have hidx : ∀ v : Nat, v < q.length + 1 → idx (v : Int) L 0 = rd W (v : Int) := fun v hv => by
    have h1 := isOrd_rd hWo hv
    have h2 := hrd (rd W (v : Int)).toNat (by omega)
    rw [Int.toNat_of_nonneg h1.1, idx_rd hWo hv] at h2
    have h3 := idx_rd hLo (i := (rd W (v : Int)).toNat) (by omega)
    rw [Int.toNat_of_nonneg h1.1, h2] at h3
    rw [h3]
  refine ⟨t, hT, hsz, by rw [hsz]; exact hLo, ?_⟩
  have hfb := flat_back (f := fun v => rd W v) hq t 0 [0] ht1.symm (by simp) (by simp [ht2]) (by
    simp only [List.flatMap_cons, List.flatMap_nil, List.append_nil, hW]
    apply List.ext_getElem
    · simp [hlen, hsz]
    · intro i h1 h2
      simp [rd_getElem h1])
  unfold growing
  rw [grows_pos hT (by rw [hsz]; exact hLo)]
  intro v h1 hv
  obtain ⟨p, hp⟩ := Int.eq_ofNat_of_zero_le (hT.par_pos h1 hv).1
  have hpl2 := (hT.par_pos h1 hv).2
  rw [hp] at hpl2 ⊢
  have hk := (hT.kids (v := p) (c := v) (by omega) hv).mpr hp
  have h4 := hfb.2 p (by omega)
  rw [Nat.zero_add] at h4
  have h5 : rd W (v : Int) ∈ ch q 0 (rd W (p : Int)) := by rw [h4]; exact List.mem_map.mpr ⟨_, hk, rfl⟩
  have h6 := ch_kid hq h5
  rw [hidx v (by omega), hidx p (by omega)]
  omega
end Go.Proofs.Ytlppkilencpmeaa.Lg

/- Numbers that follow from a code: what a part of a hash is. Plain mathematics, no program in sight. -/
namespace Go.Proofs.Ytlppkilencpmeaa.Dr
open Go.RowKit Go.Proofs.YtlppkilencpmeaaW.PrintWords
theorem u64_in (x : Int) : 0 ≤ IntKind.u64.wrap x ∧ IntKind.u64.wrap x < 18446744073709551616 := by
  have h : IntKind.u64.wrap x = x % 18446744073709551616 := by rfl
  rw [h]; omega
theorem low_in {x : Int} (h0 : 0 ≤ x) (h1 : x < 18446744073709551616) : 0 ≤ Go.bits .and .u64 x 16777215 ∧ Go.bits .and .u64 x 16777215 ≤ 16777215 := by
  obtain ⟨n, rfl⟩ := Int.eq_ofNat_of_zero_le h0
  have h := Go.bits_and_u64_nat n 16777215 (by omega) (by omega)
  rw [show ((16777215 : Nat) : Int) = 16777215 from rfl] at h
  rw [h]
  have := Nat.and_le_right (n := n) (m := 16777215)
  omega
theorem hash_in (x : Int) : 0 ≤ Go.bits .and .u64 (IntKind.u64.wrap x / 8589934592) 16777215 ∧ Go.bits .and .u64 (IntKind.u64.wrap x / 8589934592) 16777215 ≤ 16777215 := by
  have h := u64_in x
  exact low_in (by omega) (by omega)
theorem tmod_in {a b : Int} (h0 : 0 ≤ a) (hb : 1 ≤ b) : 0 ≤ Int.tmod a b ∧ Int.tmod a b < b := by
  rw [Int.tmod_eq_emod_of_nonneg h0]
  exact ⟨Int.emod_nonneg _ (by omega), Int.emod_lt_of_pos _ (by omega)⟩
/-- A code: bytes, not too many. -/
def Cod (C : List Int) : Prop := C.length ≤ 1000000 ∧ ∀ x ∈ C, 0 ≤ x ∧ x ≤ 255
theorem cod_rd {C : List Int} (h : Cod C) (i : Int) : 0 ≤ rd C i ∧ rd C i ≤ 255 := by
  unfold rd
  rw [List.getD_eq_getElem?_getD]
  cases hl : C[i.toNat]? with
  | none => simp
  | some x => simpa using h.2 x (List.mem_of_getElem? hl)
end Go.Proofs.Ytlppkilencpmeaa.Dr

/- Binary trees as texts of noughts and ones, and the list that a text tells. Plain mathematics, with no program in sight. -/
namespace Go.Proofs.Ytlppkilencpmeaa.Tr
open Go.RowKit Go.Proofs.YtlppkilencpmeaaW.PrintWords
set_option linter.unusedSimpArgs false
set_option linter.unusedVariables false
/-- A text, by its bytes. -/
def B (L : List UInt8) : ByteArray := ⟨⟨L⟩⟩
theorem B_size (L : List UInt8) : (B L).size = L.length := rfl
theorem B_toList (L : List UInt8) : (B L).toList = L := by rw [ByteArray.toList_eq]; rfl
theorem B_bt (L : List UInt8) (j : Nat) (h : j < L.length) : bt (B L) (j : Int) = ((L[j]).toNat : Int) := by
  unfold bt
  rw [dif_pos (by rw [Int.toNat_natCast]; exact h)]
  rfl
theorem B_extract (L : List UInt8) (i j : Nat) : (B L).extract i j = B ((L.take j).drop i) := by
  apply ByteArray.ext
  rw [ByteArray.data_extract]
  apply Array.ext'
  rw [Array.toList_extract]
  simp [B, List.extract_eq_take_drop, List.drop_take]
theorem u8_48 (x : UInt8) : ((x.toNat : Int) = 48) ↔ x = 48 := by
  constructor
  · intro h
    exact UInt8.toNat_inj.mp (by simpa using (by omega : x.toNat = 48))
  · rintro rfl; rfl
theorem u8_49 (x : UInt8) : ((x.toNat : Int) = 49) ↔ x = 49 := by
  constructor
  · intro h
    exact UInt8.toNat_inj.mp (by simpa using (by omega : x.toNat = 49))
  · rintro rfl; rfl
/-- The text of a binary tree. -/
def tx : F → List UInt8
  | F.nil => [48]
  | F.cons l r => 49 :: (tx l ++ tx r)
theorem tx_length (t : F) : (tx t).length = 2 * t.size + 1 := by
  induction t with
  | nil => rfl
  | cons l r ihl ihr => simp only [tx, List.length_cons, List.length_append, F.size, ihl, ihr]; omega
/-- What is left of a text behind so many trees. -/
def en : List UInt8 → Nat → Option (List UInt8)
  | L, 0 => some L
  | [], _ + 1 => none
  | x :: L, n + 1 => if x = 48 then en L n else if x = 49 then en L (n + 2) else none
theorem en_zero (L : List UInt8) : en L 0 = some L := by cases L <;> rfl
theorem en_tx (t : F) : ∀ (M : List UInt8) (n : Nat), en (tx t ++ M) (n + 1) = en M n := by
  induction t with
  | nil => intro M n; show en (48 :: M) (n + 1) = _; rw [en, if_pos rfl]
  | cons l r ihl ihr =>
    intro M n
    show en (49 :: ((tx l ++ tx r) ++ M)) (n + 1) = _
    rw [en, if_neg (by decide), if_pos rfl, List.append_assoc, ihl, ihr]
theorem en_self (t : F) : en (tx t) 1 = some [] := by have := en_tx t [] 0; rwa [List.append_nil, en_zero] at this
theorem tx_ne (l r : F) : tx (F.cons l r) ≠ [48] := by
  intro h
  have := congrArg List.length h
  rw [tx_length] at this
  simp only [F.size, List.length_singleton] at this
  omega
/-- The list of a decreasing tree. -/
def ls : F → Int → List Int
  | F.nil, _ => []
  | F.cons l r, a => ls l (a + r.size) ++ [a + (l.size + r.size + 1 : Nat) - 1] ++ ls r a
end Go.Proofs.Ytlppkilencpmeaa.Tr

namespace Go.Proofs.Ytlppkilencpmeaa.QFnTop
open Go.RowKit Go.Proofs.YtlppkilencpmeaaW.PrintWords Go.Proofs.YtlppkilencpmeaaW.PrintLast Go.Proofs.YtlppkilencpmeaaW.PrintMore Go.Proofs.Ytlppkilencpmeaa
set_option linter.unusedVariables false
set_option linter.unusedSimpArgs false
theorem Ev_succ {α : Type} {g : Nat → Option α} {r : α} (h : Ev (fun k => g (k + 1)) r) : Ev g r := Ev.step (fun _ => rfl) h
theorem evpos {α : Type} {c : Prop} [Decidable c] {f g : Nat → Option α} {r : α} (h : c) (k : Ev f r) : Ev (fun n => if c then f n else g n) r := by
  simp only [if_pos h]; exact k
theorem evneg {α : Type} {c : Prop} [Decidable c] {f g : Nat → Option α} {r : α} (h : ¬ c) (k : Ev g r) : Ev (fun n => if c then f n else g n) r := by
  simp only [if_neg h]; exact k
theorem evsome {α β : Type} {a : α} {f : Nat → α → Option β} {r : β} (k : Ev (fun n => f n a) r) : Ev (fun n => (some a).bind (f n)) r := k
theorem evnow {α : Type} {a r : α} (h : a = r) : Ev (fun _ => some a) r := by subst h; exact Ev.now _
/-- The numbers m, m + 1, .. -/
def up (m : Int) : Nat → List Int
  | 0 => []
  | n + 1 => m :: up (m + 1) n
theorem ev_isTree_l0 : ∀ (l pre : List Int) (m : Int) (n : Int), n = ((pre ++ l).length : Int) → n ≤ 1000 → 0 ≤ m → m + 24 * l.length ≤ 100000 →
    Ev (fun k => impl_isTree.l0 k m (pre ++ l) n (pre.length : Int)) (Tr.ok l m) := by
  intro l
  induction l with
  | nil =>
    intro pre m n hn hb h0 h1
    refine Ev_succ ?_
    simp only [impl_isTree.l0]
    simp only [List.length_append, List.length_nil] at hn
    refine evneg (by omega) (evnow ?_)
    rfl
  | cons x l ih =>
    intro pre m n hn hb h0 h1
    refine Ev_succ ?_
    simp only [impl_isTree.l0]
    have hn' := hn
    simp only [List.length_append, List.length_cons] at hn h1 ⊢
    refine evpos (by omega) (evpos (by omega) (evpos (by simp; omega) ?_))
    have e : rd (pre ++ x :: l) (pre.length : Int) = x := by rw [Tr.rd_app0]; exact Tr.rd_cons0 _ _
    rw [e]
    by_cases hm : m = 0
    · refine evpos hm (evnow ?_); simp [Tr.ok, hm]
    · refine evneg hm ?_
      by_cases hx : x < 0
      · refine evpos hx (evnow ?_); simp [Tr.ok, hm, Int.not_le.mpr hx]
      · refine evneg hx ?_
        by_cases hy : x ≥ 24
        · refine evpos hy (evnow ?_); simp [Tr.ok, hm, Int.not_lt.mpr hy]
        · refine evneg hy ?_
          have e2 : wrap64 (m + wrap64 (x - 1)) = m - 1 + x := by rw [Tr.wrap_id (x := x - 1) (by omega) (by omega), Tr.wrap_id (by omega) (by omega)]; omega
          have e3 : wrap64 ((pre.length : Int) + 1) = ((pre ++ [x]).length : Int) := by rw [Tr.wrap_id (by omega) (by omega)]; simp
          rw [e2, e3]
          have := ih (pre ++ [x]) (m - 1 + x) n (by simp; omega) hb (by omega) (by omega)
          simp only [List.append_assoc, List.singleton_append] at this
          rw [show Tr.ok (x :: l) m = Tr.ok l (m - 1 + x) by
            have : (m != 0) = true := bne_iff_ne.mpr hm
            have h4 : decide (0 ≤ x) = true := decide_eq_true (by omega)
            have h5 : decide (x < 24) = true := decide_eq_true (by omega)
            simp only [Tr.ok, this, h4, h5, Bool.true_and]]
          exact this
theorem ev_isTree (d : List Int) : Ev (fun k => impl_isTree.f k d) (Tr.isT d) := by
  unfold impl_isTree.f
  by_cases h : (d.length : Int) < 1
  · refine evpos h (Ev_succ ?_)
    simp only [impl_isTree.j0]
    refine evpos (by simp) (evnow ?_)
    simp only [Tr.isT, decide_eq_false (by omega : ¬ 1 ≤ d.length), Bool.false_and]
  · refine evneg h (Ev_succ ?_)
    simp only [impl_isTree.j0]
    by_cases h2 : (d.length : Int) > 24
    · refine evpos (decide_eq_true h2) (evnow ?_)
      simp only [Tr.isT, decide_eq_false (by omega : ¬ d.length ≤ 24), Bool.false_and, Bool.and_false]
    · refine evneg (by simpa using h2) ?_
      have := ev_isTree_l0 d [] 1 d.length (by simp) (by omega) (by omega) (by omega)
      rw [show Tr.isT d = Tr.ok d 1 by simp only [Tr.isT, decide_eq_true (by omega : 1 ≤ d.length), decide_eq_true (by omega : d.length ≤ 24), Bool.true_and]]
      exact this
theorem ev_IsTree (d : List Int) : Ev (fun k => impl_IsTree.f k d) (Tr.isT d) := by
  unfold impl_IsTree.f
  exact Ev.bind (ev_isTree d) (Ev.now _)
theorem ev_endOf_l0 (d : List Int) (hd : d.length ≤ 1000) (r : Int) : ∀ (g : Tr.F) (p j : Nat), Tr.Pl d p g → j + g.size ≤ 100000 →
    Ev (fun k => impl_endOf.l0 k d ((p + g.size : Nat) : Int) (j : Int)) r → Ev (fun k => impl_endOf.l0 k d (p : Int) ((g.len + j : Nat) : Int)) r := by
  intro g
  induction g with
  | nil => intro p j _ _ h; simpa [Tr.F.size, Tr.F.len] using h
  | cons b n hb hn =>
    intro p j hp hj h
    have hle := hp.le
    simp only [Tr.F.size] at hle hj
    have l1 := Tr.F.len_le b
    have l2 := Tr.F.len_le n
    refine Ev_succ ?_
    simp only [impl_endOf.l0, Tr.F.len]
    refine evpos (by omega) (evpos (by omega) (evpos (by omega) ?_))
    rw [hp.deg]
    have e : wrap64 ((p : Int) + 1) = ((p + 1 : Nat) : Int) := by rw [Tr.wrap_id (by omega) (by omega)]; omega
    have e2 : wrap64 (((1 + n.len + j : Nat) : Int) + wrap64 ((b.len : Int) - 1)) = ((b.len + (n.len + j) : Nat) : Int) := by
      rw [Tr.wrap_id (x := (b.len : Int) - 1) (by omega) (by omega), Tr.wrap_id (by omega) (by omega)]; omega
    rw [e, e2]
    refine hb (p + 1) (n.len + j) hp.below (by omega) ?_
    refine hn (p + 1 + b.size) j hp.next (by omega) ?_
    rw [show p + 1 + b.size + n.size = p + (Tr.F.cons b n).size by simp only [Tr.F.size]; omega]
    exact h
theorem ev_endOf {d : List Int} (hd : d.length ≤ 1000) {p : Nat} {b n : Tr.F} (h : Tr.Pl d p (.cons b n)) : Ev (fun k => impl_endOf.f k d (p : Int)) ((p + 1 + b.size : Nat) : Int) := by
  unfold impl_endOf.f
  have := ev_endOf_l0 d hd ((p + 1 + b.size : Nat) : Int) (.cons b .nil) p 0 h.one (by have := h.le; simp only [Tr.F.size] at this ⊢; omega)
  simp only [Tr.F.len, Tr.F.size] at this
  refine this ?_
  refine Ev_succ ?_
  simp only [impl_endOf.l0]
  refine evneg (by omega) (evnow (by omega))
theorem ev_kidsOf_l0 (d : List Int) (hd : d.length ≤ 1000) : ∀ (g : Tr.F) (p i N : Nat) (out : List Int), Tr.Pl d p g → i + g.len = N → N ≤ 1000 → out.length ≤ i →
    Ev (fun k => impl_kidsOf.l0 k d out (p : Int) (N : Int) (i : Int)) (out ++ g.roots p) := by
  intro g
  induction g with
  | nil =>
    intro p i N out hp hi hN ho
    simp only [Tr.F.len] at hi
    refine Ev_succ ?_
    simp only [impl_kidsOf.l0]
    refine evneg (by omega) (evnow ?_)
    simp [Tr.F.roots]
  | cons b n hb hn =>
    intro p i N out hp hi hN ho
    simp only [Tr.F.len] at hi
    refine Ev_succ ?_
    simp only [impl_kidsOf.l0]
    refine evpos (by omega) (evpos (by omega) (Ev.bind (ev_endOf hd hp) ?_))
    have e : wrap64 ((i : Int) + 1) = ((i + 1 : Nat) : Int) := by rw [Tr.wrap_id (by omega) (by omega)]; omega
    rw [e]
    have := hn (p + 1 + b.size) (i + 1) N (out ++ [(p : Int)]) hp.next (by omega) hN (by simp; omega)
    simpa [Tr.F.roots] using this
theorem ev_kidsOf {d : List Int} (hd : d.length ≤ 1000) {p : Nat} {b n : Tr.F} (h : Tr.Pl d p (.cons b n)) : Ev (fun k => impl_kidsOf.f k d (p : Int)) (b.roots (p + 1)) := by
  have hle := h.le
  simp only [Tr.F.size] at hle
  have l1 := Tr.F.len_le b
  unfold impl_kidsOf.f
  refine evpos (by omega) (evpos (by omega) ?_)
  have e : wrap64 ((p : Int) + 1) = ((p + 1 : Nat) : Int) := by rw [Tr.wrap_id (by omega) (by omega)]; omega
  rw [h.deg, e]
  have := ev_kidsOf_l0 d hd b (p + 1) 0 b.len [] h.below (by omega) (by omega) (by simp)
  simpa using this
theorem ev_sizesOf_l0 {d : List Int} {t : Tr.F} (h : Tr.Tree d t) : ∀ (m v : Nat), v + m = t.size →
    Ev (fun k => impl_sizesOf.l0 k d (Tr.each v (fun v => ((1 + (t.sub v).size : Nat) : Int))) (t.size : Int) (v : Int)) (Tr.sizesL t) := by
  have hle := h.le
  have hlen := h.len
  intro m
  induction m with
  | zero =>
    intro v hv
    refine Ev_succ ?_
    simp only [impl_sizesOf.l0]
    refine evneg (by omega) (evnow ?_)
    have : v = t.size := by omega
    rw [this]; rfl
  | succ m ih =>
    intro v hv
    refine Ev_succ ?_
    simp only [impl_sizesOf.l0]
    obtain ⟨n, hp⟩ := h.node (v := v) (by omega)
    have hf := h.fits (v := v) (by omega)
    refine evpos (by omega) (Ev.bind (ev_endOf (by omega) hp) (evpos (by rw [Tr.each_len]; omega) ?_))
    have e : wrap64 ((v : Int) + 1) = ((v + 1 : Nat) : Int) := by rw [Tr.wrap_id (by omega) (by omega)]; omega
    have e2 : wrap64 (((v + 1 + (t.sub v).size : Nat) : Int) - v) = ((1 + (t.sub v).size : Nat) : Int) := by rw [Tr.wrap_id (by omega) (by omega)]; omega
    rw [e, e2]
    have := ih (v + 1) (by omega)
    rw [Tr.each_succ] at this
    exact this
theorem ev_sizesOf {d : List Int} {t : Tr.F} (h : Tr.Tree d t) : Ev (fun k => impl_sizesOf.f k d) (Tr.sizesL t) := by
  unfold impl_sizesOf.f
  have := ev_sizesOf_l0 h t.size 0 (by omega)
  rw [h.len]
  exact this
theorem ev_preorder_l0 (n : Nat) (hn : n ≤ 1000) : ∀ (m v : Nat), v + m = n → Ev (fun k => impl_preorder.l0 k (Tr.upto v) (n : Int) (v : Int)) (Tr.upto n) := by
  intro m
  induction m with
  | zero =>
    intro v hv
    refine Ev_succ ?_
    simp only [impl_preorder.l0]
    have : v = n := by omega
    rw [this]
    exact evneg (by omega) (Ev.now _)
  | succ m ih =>
    intro v hv
    refine Ev_succ ?_
    simp only [impl_preorder.l0]
    have hl : (Tr.upto v).length = v := Tr.each_len _ _
    have e : wrap64 ((v : Int) + 1) = ((v + 1 : Nat) : Int) := by rw [Tr.wrap_id (by omega) (by omega)]; omega
    refine evpos (by omega) (evpos (by omega) ?_)
    rw [e]
    have := ih (v + 1) (by omega)
    rw [Tr.upto, Tr.each_succ] at this
    exact this
theorem ev_preorder (d : List Int) (hd : d.length ≤ 1000) : Ev (fun k => impl_preorder.f k d) (Tr.upto d.length) := by
  unfold impl_preorder.f
  exact ev_preorder_l0 d.length hd d.length 0 (by omega)
theorem ev_areTrees_l0 : ∀ (l pre : List S26) (N : Int), N = ((pre ++ l).length : Int) → N ≤ 100000000 → Ev (fun k => impl_areTrees.l0 k (pre ++ l) N (pre.length : Int)) (l.all fun s => Tr.isT s.f0) := by
  intro l
  induction l with
  | nil =>
    intro pre N hN hb
    refine Ev_succ ?_
    simp only [impl_areTrees.l0]
    simp only [List.length_append, List.length_nil] at hN
    exact evneg (by omega) (evnow rfl)
  | cons s l ih =>
    intro pre N hN hb
    have hN' := hN
    simp only [List.length_append, List.length_cons] at hN
    refine Ev_succ ?_
    simp only [impl_areTrees.l0]
    have e : rd_T26 (pre ++ s :: l) (pre.length : Int) = s := by unfold rd_T26; simp [List.getD_eq_getElem?_getD]
    have e3 : wrap64 ((pre.length : Int) + 1) = ((pre ++ [s]).length : Int) := by rw [Tr.wrap_id (by omega) (by omega)]; simp
    refine evpos (by omega) (evpos (by omega) (evpos (by simp; omega) ?_))
    rw [e, e3]
    refine Ev.bind (ev_IsTree s.f0) ?_
    cases h : Tr.isT s.f0 with
    | true =>
      refine evpos rfl ?_
      have := ih (pre ++ [s]) N (by rw [hN']; simp) hb
      simpa [h] using this
    | false => exact evneg (by simp) (evnow (by simp [h]))
theorem ev_areTrees (l : List S26) (h : l.length ≤ 100000000) : Ev (fun k => impl_areTrees.f k l) (l.all fun s => Tr.isT s.f0) := by
  unfold impl_areTrees.f
  exact ev_areTrees_l0 l [] l.length (by simp) (by omega)
theorem ev_parentsOf_l1 (d : List Int) (v : Nat) (hv : v ≤ 1000) (N : Int) (r : List Int) : ∀ (l pre out : List Int), (pre ++ l).length ≤ 1000 → (∀ c ∈ l, 0 ≤ c ∧ c < out.length) →
    Ev (fun k => impl_parentsOf.l0 k d (Tr.setAll out l v) N ((v + 1 : Nat) : Int)) r → Ev (fun k => impl_parentsOf.l1 k d out (v : Int) N (v : Int) (pre ++ l) ((pre ++ l).length : Int) (pre.length : Int)) r := by
  intro l
  induction l with
  | nil =>
    intro pre out hb _ h
    refine Ev_succ ?_
    simp only [impl_parentsOf.l1]
    refine evneg (by simp) ?_
    rw [Tr.wrap_succ (by omega)]; exact h
  | cons c l ih =>
    intro pre out hb hc h
    have h1 := hc c (List.mem_cons_self ..)
    refine Ev_succ ?_
    simp only [impl_parentsOf.l1]
    have e : rd (pre ++ c :: l) (pre.length : Int) = c := by rw [Tr.rd_app0]; exact Tr.rd_cons0 _ _
    have hb' := hb
    simp only [List.length_append, List.length_cons] at hb
    refine evpos (by simp; omega) (evpos (by omega) (evpos (by simp; omega) ?_))
    rw [e]
    clear e
    refine evpos h1.1 (evpos h1.2 ?_)
    rw [Tr.wrap_succ (by omega)]
    have := ih (pre ++ [c]) (out.set c.toNat v) (by simpa using hb') (fun x hx => by have := hc x (List.mem_cons_of_mem _ hx); simpa using this) h
    simpa using this
theorem ev_parentsOf_l0 {d : List Int} {t : Tr.F} (h : Tr.Tree d t) : ∀ (m v : Nat) (out : List Int), v + m = t.size → out.length = t.size → (∀ c : Nat, c < t.size → t.par 0 (-1) c < v → rd out (c : Int) = t.par 0 (-1) c) →
    Ev (fun k => impl_parentsOf.l0 k d out (t.size : Int) (v : Int)) (Tr.parentsL t) := by
  have hle := h.le
  have hlen := h.len
  intro m
  induction m with
  | zero =>
    intro v out hv ho hi
    refine Ev_succ ?_
    simp only [impl_parentsOf.l0]
    refine evneg (by omega) (evnow ?_)
    refine Tr.each_eq ho (fun c hc => hi c hc ?_)
    have := (h.par_lt hc).2; omega
  | succ m ih =>
    intro v out hv ho hi
    refine Ev_succ ?_
    simp only [impl_parentsOf.l0]
    obtain ⟨n, hp⟩ := h.node (v := v) (by omega)
    refine evpos (by omega) (Ev.bind (ev_kidsOf (by omega) hp) ?_)
    have hk : ∀ c ∈ (t.sub v).roots (v + 1), 0 ≤ c ∧ c < out.length := fun c hc => by have := h.kid_range (v := v) (by omega) hc; omega
    refine ev_parentsOf_l1 d v (by omega) _ _ _ [] out ?_ hk ?_
    · have := Tr.F.len_le (t.sub v)
      have := h.fits (v := v) (by omega)
      rw [List.nil_append, Tr.F.roots_len]; omega
    · refine ih (v + 1) _ (by omega) (by rw [Tr.setAll_len]; exact ho) (fun c hc hpc => ?_)
      rw [Tr.setAll_rd v _ _ _ (fun x hx => (hk x hx).1) (by omega)]
      by_cases e : (c : Int) ∈ (t.sub v).roots (v + 1)
      · rw [if_pos e]; exact ((h.kids (by omega) hc).1 e).symm
      · rw [if_neg e]
        refine hi c hc ?_
        have : ¬ t.par 0 (-1) c = v := fun e' => e ((h.kids (by omega) hc).2 e')
        omega
theorem ev_parentsOf {d : List Int} {t : Tr.F} (h : Tr.Tree d t) : Ev (fun k => impl_parentsOf.f k d) (Tr.parentsL t) := by
  have hle := h.le
  have hlen := h.len
  have hpos := h.pos
  unfold impl_parentsOf.f slices_Repeat.f
  rw [if_pos (by refine ⟨rfl, ?_, ?_⟩ <;> omega)]
  refine evsome ?_
  rw [hlen]
  refine ev_parentsOf_l0 h t.size 0 _ (by omega) (by simp) (fun c hc hp => ?_)
  have e : c = 0 := by
    by_cases e : c = 0
    · exact e
    · have := h.par_pos (c := c) (by omega) hc; omega
  subst e
  rw [h.par_zero]
  rw [Tr.rd_getElem (by simp; omega)]
  simp [rd]
theorem ev_ways_l0 (szl : List Int) (f : Nat → Nat) : ∀ (l pre : List Nat) (N : Int), N = ((pre ++ l).length : Int) → (pre ++ l).length ≤ 20 → (∀ v ∈ pre ++ l, v < szl.length ∧ rd szl (v : Int) = (f v : Int) ∧ 0 < f v) → Tr.lprod ((pre ++ l).map f) ≤ Tr.fact (pre ++ l).length →
    Ev (fun k => impl_ways.l0 k szl (Tr.fact pre.length : Int) (Tr.lprod (pre.map f) : Int) ((pre ++ l).map (fun v : Nat => (v : Int))) N (pre.length : Int)) ((Tr.fact (pre ++ l).length / Tr.lprod ((pre ++ l).map f) : Nat) : Int) := by
  intro l
  induction l with
  | nil =>
    intro pre N hN hb hv hp
    rw [List.append_nil] at hN hb hv hp ⊢
    have hpos : 0 < Tr.lprod (pre.map f) := Tr.lprod_pos _ (fun x hx => by
      simp only [List.mem_map] at hx
      obtain ⟨v, hv', rfl⟩ := hx
      exact (hv v hv').2.2)
    have hfl := Tr.fact_le _ _ hb
    rw [show Tr.fact 20 = 2432902008176640000 by rfl] at hfl
    refine Ev_succ ?_
    simp only [impl_ways.l0]
    generalize Tr.fact pre.length = A at hp hfl ⊢
    generalize Tr.lprod (pre.map f) = B at hp hpos ⊢
    have hdl : A / B ≤ A := Nat.div_le_self _ _
    have e : Int.tdiv (A : Int) (B : Int) = ((A / B : Nat) : Int) := by rw [Int.tdiv_eq_ediv_of_nonneg (by omega)]; exact (Int.natCast_ediv _ _).symm
    rw [e]
    clear e
    generalize A / B = C at hdl ⊢
    exact evneg (by omega) (evneg (by omega) (evnow (Tr.wrap_id (by omega) (by omega))))
  | cons v l ih =>
    intro pre N hN hb hv hp
    obtain ⟨h1, h2, h3⟩ := hv v (by simp)
    have hb' := hb
    simp only [List.length_append, List.length_cons] at hb
    have hfl := Tr.fact_le (pre.length + 1) 20 (by omega)
    rw [show Tr.fact 20 = 2432902008176640000 by rfl] at hfl
    have hfl2 := Tr.fact_le (pre ++ v :: l).length 20 hb'
    rw [show Tr.fact 20 = 2432902008176640000 by rfl] at hfl2
    have hpp : Tr.lprod ((pre ++ [v]).map f) ≤ Tr.lprod ((pre ++ v :: l).map f) := by
      have e : pre ++ v :: l = (pre ++ [v]) ++ l := by simp
      have e0 : Tr.lprod ((pre ++ v :: l).map f) = Tr.lprod ((pre ++ [v]).map f) * Tr.lprod (l.map f) := by rw [e, List.map_append, Tr.lprod_app]
      rw [e0]
      refine Nat.le_mul_of_pos_right _ (Tr.lprod_pos (l.map f) (fun x hx => ?_))
      simp only [List.mem_map] at hx
      obtain ⟨u, hu, rfl⟩ := hx
      exact (hv u (by simp [hu])).2.2
    have e2 : Tr.lprod ((pre ++ [v]).map f) = Tr.lprod (pre.map f) * f v := by rw [List.map_append, Tr.lprod_app]; simp [Tr.lprod]
    have e3 : Tr.fact (pre ++ [v]).length = (pre.length + 1) * Tr.fact pre.length := by simp [Tr.fact]
    have := ih (pre ++ [v]) N (by rw [hN]; simp) (by simpa using hb') (by simpa using hv) (by simpa using hp)
    rw [e2, e3] at this
    have e4 : pre ++ [v] ++ l = pre ++ v :: l := by simp
    have e5 : (pre ++ [v]).length = pre.length + 1 := by simp
    rw [e4, e5] at this
    have hml : ((pre ++ v :: l).map (fun v : Nat => (v : Int))).length = pre.length + (l.length + 1) := by simp
    have e6 : rd ((pre ++ v :: l).map (fun v : Nat => (v : Int))) (pre.length : Int) = v := by rw [Tr.rd_getElem (by simp)]; simp
    rw [show Tr.fact (pre.length + 1) = (pre.length + 1) * Tr.fact pre.length from rfl] at hfl
    rw [e2] at hpp
    simp only [List.length_append, List.length_cons] at hN
    refine Ev_succ ?_
    simp only [impl_ways.l0]
    rw [e6, h2]
    clear e6 h2 e2 e3 e4 e5 ih
    generalize Tr.fact pre.length = A at hfl this ⊢
    generalize Tr.lprod (pre.map f) = B at hpp this ⊢
    generalize f v = s at hpp this h3 ⊢
    have q1 : (A : Int) * ((pre.length : Int) + 1) = (((pre.length + 1) * A : Nat) : Int) := by rw [Nat.mul_comm]; simp
    have q2 : (B : Int) * (s : Int) = ((B * s : Nat) : Int) := by simp
    rw [Tr.wrap_id (x := (pre.length : Int) + 1) (by omega) (by omega), q1, q2]
    clear q1 q2
    generalize (pre.length + 1) * A = A' at hfl this ⊢
    generalize B * s = B' at hpp this ⊢
    rw [Tr.wrap_id (x := (A' : Int)) (by omega) (by omega), Tr.wrap_id (x := (B' : Int)) (by omega) (by omega)]
    refine evpos (by omega) (evpos (by omega) (evpos (by omega) (evpos (by omega) (evpos (by omega) ?_))))
    rw [show (pre.length : Int) + 1 = ((pre.length + 1 : Nat) : Int) by omega]
    exact this
theorem ev_ways (szl : List Int) (f : Nat → Nat) (l : List Nat) (hl : l.length ≤ 20) (hv : ∀ v ∈ l, v < szl.length ∧ rd szl (v : Int) = (f v : Int) ∧ 0 < f v) (hd : Tr.lprod (l.map f) ∣ Tr.fact l.length) :
    Ev (fun k => impl_ways.f k szl (l.map (fun v : Nat => (v : Int)))) ((Tr.fact l.length / Tr.lprod (l.map f) : Nat) : Int) := by
  unfold impl_ways.f
  have := ev_ways_l0 szl f l [] l.length (by simp) (by simpa using hl) (by simpa using hv) (by simpa using Nat.le_of_dvd (Tr.fact_pos _) hd)
  simpa [Tr.fact, Tr.lprod] using this
theorem ev_orderCode_l0 : ∀ (l pre : List Int) (N : Int), N = ((pre ++ l).length : Int) → N ≤ 100000000 → pre = Tr.upto pre.length →
    Ev (fun k => impl_orderCode.l0 k (pre ++ l) N (pre.length : Int)) (if pre ++ l = Tr.upto (pre ++ l).length then 0 else 2) := by
  intro l
  induction l with
  | nil =>
    intro pre N hN hb hp
    refine Ev_succ ?_
    simp only [impl_orderCode.l0]
    refine evneg (by simp at hN; omega) (evnow ?_)
    rw [List.append_nil, if_pos hp]
  | cons x l ih =>
    intro pre N hN hb hp
    have hN' := hN
    simp only [List.length_append, List.length_cons] at hN
    have e : rd (pre ++ x :: l) (pre.length : Int) = x := by rw [Tr.rd_app0]; exact Tr.rd_cons0 _ _
    have e3 : wrap64 ((pre.length : Int) + 1) = ((pre ++ [x]).length : Int) := by rw [Tr.wrap_id (by omega) (by omega)]; simp
    refine Ev_succ ?_
    simp only [impl_orderCode.l0]
    refine evpos (by omega) (evpos (by omega) (evpos (by simp; omega) ?_))
    rw [e, e3]
    by_cases hx : x = (pre.length : Int)
    · refine evpos hx ?_
      have := ih (pre ++ [x]) N (by simpa using hN') hb (by
        rw [List.length_append, List.length_singleton]
        show pre ++ [x] = Tr.each (pre.length + 1) _
        rw [Tr.each_succ]
        show pre ++ [x] = Tr.upto pre.length ++ [(pre.length : Int)]
        rw [← hp, hx])
      simpa using this
    · refine evneg hx (evnow ?_)
      rw [if_neg]
      intro hq
      have h1 : rd (pre ++ x :: l) (pre.length : Int) = rd (Tr.upto (pre ++ x :: l).length) (pre.length : Int) := by rw [← hq]
      rw [e, Tr.upto_rd (by simp)] at h1
      exact hx h1
theorem ev_orderCode (d l : List Int) (hl : l.length ≤ 100000000) : Ev (fun k => impl_orderCode.f k d l) (Tr.codeO d l) := by
  unfold impl_orderCode.f Tr.codeO
  refine Ev.bind (ev_IsTree d) ?_
  cases hd : Tr.isT d with
  | false => exact evneg (by simp) (evnow (by simp))
  | true =>
    refine evpos rfl ?_
    rw [if_pos rfl, show slices_Clone.f l = some l by unfold slices_Clone.f; rw [if_pos hl]]
    refine evsome ?_
    rw [show slices_Sort.f l = some (Tr.msort l) by unfold slices_Sort.f; rw [if_pos hl]; rfl]
    refine evsome ?_
    by_cases hn : l.length = d.length
    · refine evpos (by omega) ?_
      have := ev_orderCode_l0 (Tr.msort l) [] (l.length : Int) (by simp [Tr.msort_len]) (by omega) rfl
      simp only [List.nil_append, List.length_nil, Tr.msort_len, hn] at this
      rw [← hn] at this
      have e : (Tr.isOrd d.length l) = (Tr.msort l = Tr.upto l.length) := by
        rw [eq_iff_iff, Tr.isOrd_sort, ← hn]; simp
      have e2 : (if Tr.isOrd d.length l then (0 : Int) else 2) = if Tr.msort l = Tr.upto l.length then 0 else 2 := by
        by_cases q : Tr.isOrd d.length l
        · rw [if_pos q, if_pos (e ▸ q)]
        · rw [if_neg q, if_neg (e ▸ q)]
      rw [e2]
      exact this
    · refine evneg (by omega) (evnow ?_)
      rw [if_neg]
      intro q; exact hn q.1
theorem ev_labelsOf_l0 {n : Nat} {l : List Int} (ho : Tr.isOrd n l) (hn : n ≤ 1000) : ∀ (r pre out : List Int), l = pre ++ r → out.length = n → (∀ v : Nat, v < n → (v : Int) ∈ pre → rd out (v : Int) = Tr.idx (v : Int) l 0) →
    Ev (fun k => impl_labelsOf.l0 k out l (n : Int) (pre.length : Int)) (Tr.labels l n) := by
  intro r
  induction r with
  | nil =>
    intro pre out hl hol hout
    have := ho.1
    refine Ev_succ ?_
    simp only [impl_labelsOf.l0]
    rw [List.append_nil] at hl
    refine evneg (by rw [← hl]; omega) (evnow ?_)
    refine Tr.each_eq hol (fun v hv => hout v hv ?_)
    rw [← hl]; exact (Tr.isOrd_mem ho).mpr (by omega)
  | cons x r ih =>
    intro pre out hl hol hout
    have hlen := ho.1
    have hll : l.length = pre.length + (r.length + 1) := by rw [hl]; simp
    have e : rd l (pre.length : Int) = x := by rw [hl, Tr.rd_app0]; exact Tr.rd_cons0 _ _
    have e3 : wrap64 ((pre.length : Int) + 1) = ((pre ++ [x]).length : Int) := by rw [Tr.wrap_id (by omega) (by omega)]; simp
    have hx := ho.2.2 x (by rw [hl]; simp)
    have hnx : x ∉ pre := by
      have := ho.2.1
      rw [hl, List.nodup_append] at this
      intro hxa
      exact this.2.2 x hxa x (by simp) rfl
    refine Ev_succ ?_
    simp only [impl_labelsOf.l0]
    refine evpos (by omega) (evpos (by omega) (evpos (by omega) ?_))
    rw [e, e3]
    refine evpos (by omega) (evpos (by omega) ?_)
    refine ih (pre ++ [x]) _ (by rw [hl]; simp) (by simpa using hol) (fun v hv hm => ?_)
    rw [Tr.rd_set (by omega) hx.1]
    by_cases hxv : x = (v : Int)
    · rw [if_pos hxv, hl, ← hxv, Tr.idx_at hnx]
    · rw [if_neg hxv]
      refine hout v hv ?_
      simp only [List.mem_append, List.mem_singleton] at hm
      rcases hm with hm | hm
      · exact hm
      · exact absurd hm.symm hxv
theorem ev_labelsOf {n : Nat} {l : List Int} (ho : Tr.isOrd n l) (hn : n ≤ 1000) : Ev (fun k => impl_labelsOf.f k l) (Tr.labels l n) := by
  unfold impl_labelsOf.f
  have := ho.1
  refine evpos (by omega) (evpos (by omega) ?_)
  have := ev_labelsOf_l0 ho hn l [] (List.replicate (l.length : Int).toNat 0) rfl (by simp; omega) (fun v _ hm => absurd hm (by simp))
  rw [ho.1] at this ⊢
  simpa using this
theorem ev_isGrowing_l0 {d : List Int} {t : Tr.F} (h : Tr.Tree d t) (l : List Int) : ∀ (m v : Nat), v + m = t.size → 1 ≤ v →
    Ev (fun k => impl_isGrowing.l0 k d (Tr.labels l t.size) (Tr.parentsL t) (v : Int)) (decide (∀ u : Nat, u < t.size → v ≤ u → Tr.idx (t.par 0 (-1) u) l 0 ≤ Tr.idx (u : Int) l 0)) := by
  have hle := h.le
  have hlen := h.len
  intro m
  induction m with
  | zero =>
    intro v hv h1
    refine Ev_succ ?_
    simp only [impl_isGrowing.l0]
    refine evneg (by omega) (evnow ?_)
    symm; rw [decide_eq_true_eq]
    intro u hu hvu; omega
  | succ m ih =>
    intro v hv h1
    have hvs : v < t.size := by omega
    have hpr : rd (Tr.parentsL t) (v : Int) = t.par 0 (-1) v := Tr.each_rd hvs
    have hpl : (Tr.parentsL t).length = t.size := Tr.each_len _ _
    have hll : (Tr.labels l t.size).length = t.size := Tr.each_len _ _
    have hpv := h.par_pos h1 hvs
    have e1 : rd (Tr.labels l t.size) (v : Int) = Tr.idx (v : Int) l 0 := Tr.each_rd hvs
    have e2 : rd (Tr.labels l t.size) (t.par 0 (-1) v) = Tr.idx (t.par 0 (-1) v) l 0 := by
      obtain ⟨p, hp⟩ := Int.eq_ofNat_of_zero_le hpv.1
      rw [hp] at hpv ⊢
      exact Tr.each_rd (by omega)
    refine Ev_succ ?_
    simp only [impl_isGrowing.l0]
    rw [hpr, e1, e2, hpl, hll, Tr.wrap_succ (by omega)]
    refine evpos (by omega) (evpos (by omega) (evpos (by omega) (evpos (by omega) (evpos (by omega) (evpos (by omega) ?_)))))
    by_cases hlt : Tr.idx (v : Int) l 0 < Tr.idx (t.par 0 (-1) v) l 0
    · refine evpos hlt (evnow ?_)
      symm; rw [decide_eq_false_iff_not]
      intro hq
      have := hq v hvs (Nat.le_refl _)
      omega
    · refine evneg hlt ?_
      have e : (∀ u : Nat, u < t.size → v ≤ u → Tr.idx (t.par 0 (-1) u) l 0 ≤ Tr.idx (u : Int) l 0) ↔ (∀ u : Nat, u < t.size → v + 1 ≤ u → Tr.idx (t.par 0 (-1) u) l 0 ≤ Tr.idx (u : Int) l 0) := by
        constructor
        · intro hq u hu hvu; exact hq u hu (by omega)
        · intro hq u hu hvu
          rcases Nat.lt_or_ge v u with q | q
          · exact hq u hu q
          · have : u = v := by omega
            subst this; omega
      rw [decide_eq_decide.mpr e]
      exact ih (v + 1) (by omega) (by omega)
theorem ev_isGrowing {d : List Int} {t : Tr.F} (h : Tr.Tree d t) {l : List Int} (ho : Tr.isOrd d.length l) : Ev (fun k => impl_isGrowing.f k d l) (Tr.growing t l) := by
  have hle := h.le
  have hlen := h.len
  have hpos := h.pos
  rw [hlen] at ho
  unfold impl_isGrowing.f
  refine Ev.bind (ev_labelsOf ho (by omega)) (Ev.bind (ev_parentsOf h) ?_)
  have := ev_isGrowing_l0 h l (t.size - 1) 1 (by omega) (by omega)
  have e : (∀ u : Nat, u < t.size → 1 ≤ u → Tr.idx (t.par 0 (-1) u) l 0 ≤ Tr.idx (u : Int) l 0) ↔ Tr.grows t [] l = true := by
    rw [Tr.grows_pos h ho]
    constructor
    · intro q v h1 h2; exact q v h2 h1
    · intro q v h1 h2; exact q v h2 h1
  have e' : decide (∀ u : Nat, u < t.size → 1 ≤ u → Tr.idx (t.par 0 (-1) u) l 0 ≤ Tr.idx (u : Int) l 0) = Tr.growing t l := by
    rw [Bool.eq_iff_iff, decide_eq_true_eq]; exact e
  rw [e'] at this
  exact this
theorem ev_each {β : Type} (n : Nat) (g : Nat → Nat → Option β) (r : Nat → β) (h : ∀ v, v < n → Ev (fun k => g v k) (r v)) : ∃ K, ∀ k, K ≤ k → ∀ v, v < n → g v k = some (r v) := by
  induction n with
  | zero => exact ⟨0, fun _ _ v hv => by omega⟩
  | succ n ih =>
    obtain ⟨K, hK⟩ := ih (fun v hv => h v (by omega))
    obtain ⟨K2, hK2⟩ := h n (by omega)
    refine ⟨max K K2, fun k hk v hv => ?_⟩
    by_cases e : v = n
    · subst e; exact hK2 k (by omega)
    · exact hK k (by omega) v (by omega)
theorem ev_kids_all {d : List Int} {t : Tr.F} (h : Tr.Tree d t) : ∃ K, ∀ k, K ≤ k → ∀ v, v < d.length → impl_kidsOf.f k d ((v : Nat) : Int) = some ((t.sub v).roots (v + 1)) :=
  ev_each d.length (fun v k => impl_kidsOf.f k d ((v : Nat) : Int)) (fun v => (t.sub v).roots (v + 1)) (fun v hv => by
    obtain ⟨n, hn⟩ := h.node (v := v) (by rw [← h.len]; exact hv)
    exact ev_kidsOf (by have := h.le; omega) hn)
theorem ev_inCommon {d e : List Int} {t u : Tr.F} (h : Tr.Tree d t) (g : Tr.Tree e u) : Ev (fun k => impl_inCommon.f k d e) ((Tr.F.pc t.mir u.mir : Nat) : Int) := by
  obtain ⟨k1, h1⟩ := ev_kids_all h
  obtain ⟨k2, h2⟩ := ev_kids_all g
  refine ⟨max k1 k2, fun k hk => ?_⟩
  show impl_inCommon.f k d e = _
  unfold impl_inCommon.f
  rw [h.dec, g.dec, if_pos ⟨h.isT, g.isT, h1 k (by omega), h2 k (by omega)⟩]
theorem ev_areTwo (d e : List Int) : Ev (fun k => impl_areTrees.f k ([(⟨d⟩ : S26), (⟨e⟩ : S26)] : List S26)) (Tr.isT d && Tr.isT e) := by
  have := ev_areTrees [(⟨d⟩ : S26), (⟨e⟩ : S26)] (by simp)
  simpa using this
theorem ev_endBinary_l0 : ∀ (L : List UInt8) (n : Nat), L.length + n ≤ 1000000000 → Ev (fun k => impl_endBinary.l0 k (Tr.B L) (n : Int)) (match Tr.en L n with | some R => (Tr.B R, true) | none => ((⟨#[]⟩ : ByteArray), false)) := by
  intro L
  induction L with
  | nil =>
    intro n hn
    refine Ev_succ ?_
    simp only [impl_endBinary.l0]
    cases n with
    | zero => rw [Tr.en_zero]; exact evneg (by omega) (Ev.now _)
    | succ n =>
      refine evpos (by omega) (evpos (Tr.B_toList _) ?_)
      refine Ev_succ ?_
      simp only [impl_endBinary.j1]
      exact evpos trivial (Ev.now _)
  | cons x L ih =>
    intro n hn
    simp only [List.length_cons] at hn
    refine Ev_succ ?_
    simp only [impl_endBinary.l0]
    cases n with
    | zero => rw [Tr.en_zero]; exact evneg (by omega) (Ev.now _)
    | succ n =>
      have hb : bt (Tr.B (x :: L)) 0 = (x.toNat : Int) := Tr.B_bt (x :: L) 0 (by simp)
      have hsz : ((Tr.B (x :: L)).size : Int) = (L.length : Int) + 1 := by rw [Tr.B_size]; simp
      have hex : (Tr.B (x :: L)).extract 1 (Tr.B (x :: L)).size = Tr.B L := by rw [Tr.B_extract, Tr.B_size, List.take_length]; rfl
      refine evpos (by omega) (evneg (by rw [Tr.B_toList]; simp) (evpos (by omega) ?_))
      rw [Tr.en]
      by_cases h0 : x = 48
      · rw [if_pos h0]
        refine evpos (by rw [hb]; exact (Tr.u8_48 x).mpr h0) ?_
        refine Ev_succ ?_
        simp only [impl_endBinary.j1]
        refine evneg (by simp) (evpos (by omega) (evneg (by rw [hb, h0]; decide) (evpos (by omega) ?_)))
        rw [hex, Tr.wrap_id (x := ((n + 1 : Nat) : Int) - 1) (by omega) (by omega), show ((n + 1 : Nat) : Int) - 1 = (n : Int) by omega]
        exact ih n (by omega)
      · rw [if_neg h0]
        have hb0 : ¬ bt (Tr.B (x :: L)) 0 = 48 := by rw [hb]; exact fun h => h0 ((Tr.u8_48 x).mp h)
        refine evneg hb0 ?_
        by_cases h1 : x = 49
        · rw [if_pos h1]
          have hb1 : bt (Tr.B (x :: L)) 0 = 49 := by rw [hb]; exact (Tr.u8_49 x).mpr h1
          refine Ev_succ ?_
          simp only [impl_endBinary.j1]
          refine evneg (by rw [hb1]; decide) (evpos (by omega) (evpos hb1 (evpos (by omega) ?_)))
          rw [hex, Tr.wrap_id (x := ((n + 1 : Nat) : Int) + 1) (by omega) (by omega), show ((n + 1 : Nat) : Int) + 1 = ((n + 2 : Nat) : Int) by omega]
          exact ih (n + 2) (by omega)
        · rw [if_neg h1]
          have hb1 : ¬ bt (Tr.B (x :: L)) 0 = 49 := by rw [hb]; exact fun h => h1 ((Tr.u8_49 x).mp h)
          refine Ev_succ ?_
          simp only [impl_endBinary.j1]
          exact evpos (bne_iff_ne.mpr hb1) (Ev.now _)
theorem ev_endBinary (L : List UInt8) (h : L.length ≤ 1000000) : Ev (fun k => impl_endBinary.f k (Tr.B L)) (match Tr.en L 1 with | some R => (Tr.B R, true) | none => ((⟨#[]⟩ : ByteArray), false)) := by
  unfold impl_endBinary.f
  exact ev_endBinary_l0 L 1 (by omega)
theorem ev_IsBinary (L : List UInt8) : Ev (fun k => impl_IsBinary.f k (Tr.B L)) (decide (L.length ≤ 47 ∧ Tr.en L 1 = some [])) := by
  unfold impl_IsBinary.f
  by_cases h : L.length ≤ 47
  · refine evneg (by rw [Tr.B_size]; omega) (Ev.bind (ev_endBinary L (by omega)) ?_)
    cases he : Tr.en L 1 with
    | none => exact evneg (by simp) (evnow (by simp))
    | some R =>
      refine evpos rfl (evnow ?_)
      rw [Tr.B_toList]
      by_cases hR : R = []
      · simp [hR, h]
      · simp [hR]
  · refine evpos (by rw [Tr.B_size]; omega) (evnow ?_)
    simp [h]
theorem ev_impl_sides (l r : Tr.F) (h : 2 * (l.size + r.size) ≤ 1000) : Ev (fun k => impl_sides.f k (Tr.B (Tr.tx (Tr.F.cons l r)))) (Tr.B (Tr.tx l), Tr.B (Tr.tx r)) := by
  unfold impl_sides.f
  have hl := Tr.tx_length l
  have hr := Tr.tx_length r
  have hs : (Tr.B (Tr.tx (Tr.F.cons l r))).size = 2 * (l.size + r.size + 1) + 1 := by rw [Tr.B_size, Tr.tx_length]; simp only [Tr.F.size]; omega
  refine evpos (by omega) ?_
  have hex : (Tr.B (Tr.tx (Tr.F.cons l r))).extract 1 (Tr.B (Tr.tx (Tr.F.cons l r))).size = Tr.B (Tr.tx l ++ Tr.tx r) := by rw [Tr.B_extract, Tr.B_size, List.take_length]; rfl
  rw [hex]
  have hen : Tr.en (Tr.tx l ++ Tr.tx r) 1 = some (Tr.tx r) := by rw [Tr.en_tx l (Tr.tx r) 0, Tr.en_zero]
  have he := ev_endBinary (Tr.tx l ++ Tr.tx r) (by rw [List.length_append]; omega)
  rw [hen] at he
  refine Ev.bind he ?_
  have hw : wrap64 (((Tr.B (Tr.tx (Tr.F.cons l r))).size : Int) - ((Tr.B (Tr.tx r)).size : Int)) = ((2 * l.size + 2 : Nat) : Int) := by
    rw [hs, Tr.B_size, hr, Tr.wrap_id (by omega) (by omega)]; omega
  dsimp only
  rw [hw]
  refine evpos (by omega) (evpos (by omega) (evnow ?_))
  rw [Int.toNat_natCast, Tr.B_extract]
  congr 2
  show List.drop 1 (List.take (2 * l.size + 2) (49 :: (Tr.tx l ++ Tr.tx r))) = Tr.tx l
  rw [List.take_succ_cons, List.drop_succ_cons, List.drop_zero, List.take_append_of_le_length (by omega), List.take_of_length_le (by omega)]
/- for impl_GrownTree.f -/
theorem gt_kf : ∀ (xs p : List Int) (K : List (List Int)), Gt.Kids K p → (Gt.ok xs p.length = true → ∃ K', impl_GrownTree.kf xs p.length K = some K' ∧ Gt.Kids K' (p ++ xs)) ∧ (Gt.ok xs p.length = false → impl_GrownTree.kf xs p.length K = none) := by
  intro xs
  induction xs with
  | nil => intro p K h; exact ⟨fun _ => ⟨K, rfl, by simpa using h⟩, fun h => by cases h⟩
  | cons x xs ih =>
    intro p K h
    rw [impl_GrownTree.kf, Gt.ok]
    by_cases hx : 0 ≤ x ∧ x ≤ (p.length : Int)
    · have h2 := ih (p ++ [x]) _ (Gt.kids_snoc h hx.1 hx.2)
      rw [decide_eq_true hx, Bool.true_and]
      rw [if_neg (show ¬ (x < 0 ∨ x > (p.length : Int)) by omega)]
      simpa [List.append_assoc] using h2
    · rw [decide_eq_false hx, Bool.false_and]
      rw [if_pos (show x < 0 ∨ x > (p.length : Int) by omega)]
      exact ⟨fun h => (by cases h), fun _ => rfl⟩
/- for impl_GrownTree.f -/
theorem gt_gl {q : List Int} {f : Int → List Int × List Int → Option (List Int × List Int)} {m n : Nat} : ∀ (cs T G : List Int),
    (∀ c ∈ cs, ∀ T G : List Int, G.length = n → T.length + (Gt.wd q m c).length ≤ 1000 → f c (T, G) = some (T ++ Gt.wd q m c, Gt.place T.length (Gt.wl q m c) G)) → G.length = n → T.length + (cs.flatMap (Gt.wd q m)).length ≤ 1000 →
    Gw.gl f cs (T, G) = some (T ++ cs.flatMap (Gt.wd q m), Gt.place T.length (cs.flatMap (Gt.wl q m)) G) := by
  intro cs
  induction cs with
  | nil => intro T G _ _ _; simp [Gw.gl, Gt.place]
  | cons c cs ih =>
    intro T G hf hG hT
    rw [List.flatMap_cons, List.length_append] at hT
    rw [Gw.gl, hf c (by simp) T G hG (by omega), Option.bind_some, ih _ _ (fun y hy => hf y (by simp [hy])) (by rw [Gt.place_len]; exact hG) (by rw [List.length_append]; omega), List.flatMap_cons, List.flatMap_cons, Gt.place_append, List.append_assoc, List.length_append, Gt.wd_len]
theorem gt_gw {K : List (List Int)} {q : List Int} (hq : Gt.Grows q) (hK : Gt.Kids K q) (hn : q.length ≤ 1000) : ∀ (m : Nat) (l : Int) (T G : List Int), 0 ≤ l → l ≤ (q.length : Int) → (q.length : Int) - l < m → G.length = q.length + 1 → T.length + (Gt.wd q m l).length ≤ 1000 →
    Gw.gw K m l (T, G) = some (T ++ Gt.wd q m l, Gt.place T.length (Gt.wl q m l) G) := by
  intro m
  induction m with
  | zero => intro l T G h0 h1 h2 h3 h4; omega
  | succ m ih =>
    intro l T G h0 h1 h2 h3 h4
    have hk := hK.2 l.toNat
    rw [Int.toNat_of_nonneg h0] at hk
    have hc := Gt.ch_len_le l q 0
    have hKl := hK.1
    rw [Gt.wd, List.length_cons] at h4
    rw [Gw.gw, hk, if_pos ⟨h0, by omega, by dsimp only; omega, by dsimp only; omega, by omega⟩]
    dsimp only
    rw [gt_gl (q := q) (m := m) (n := q.length + 1) _ _ _ (fun c hcm T G hG hT => by have h5 := Gt.ch_kid hq hcm; exact ih c T G (by omega) (by omega) (by omega) hG hT) (by rw [List.length_set]; exact h3) (by rw [List.length_append, List.length_singleton]; omega)]
    rw [Gt.wd, Gt.wl, Gt.place, List.append_assoc, List.length_append, List.length_singleton]
    rfl
theorem gt_ok : ∀ (xs : List Int) (i : Nat), (∀ (j : Nat) (x : Int), xs[j]? = some x → 0 ≤ x ∧ x ≤ ((i + j : Nat) : Int)) → Gt.ok xs i = true := by
  intro xs
  induction xs with
  | nil => intro i _; rfl
  | cons y ys ih =>
    intro i h
    have h0 := h 0 y rfl
    rw [Gt.ok, decide_eq_true (by omega), Bool.true_and]
    exact ih (i + 1) (fun j x hx => by have := h (j + 1) x (by simpa using hx); omega)
theorem ev_impl_GrownTree (l0 : List Int) (hn1 : l0.length ≤ 23) (hq : Gt.Grows l0) : Ev (fun k => impl_GrownTree.f k l0) (Gt.wd l0 (l0.length + 1) 0, Gt.place 0 (Gt.wl l0 (l0.length + 1) 0) (List.replicate (l0.length + 1) 0), 0) := by
  have hk0 : Gt.Kids [[]] ([] : List Int) := ⟨rfl, fun j => by cases j <;> rfl⟩
  have hkf := gt_kf l0 [] [[]] hk0
  have hok : Gt.ok l0 0 = true := gt_ok l0 0 (fun j x hx => by have := hq j x hx; omega)
  have hlen := Gt.wl_len hq (l0.length + 1) (by omega)
  have hdlen := Gt.wd_len l0 (l0.length + 1) 0
  unfold impl_GrownTree.f
  refine evneg (by omega) ?_
  obtain ⟨K, h1, h2⟩ := hkf.1 hok
  rw [show impl_GrownTree.kf l0 0 [[]] = some K from h1]
  rw [List.nil_append] at h2
  refine ⟨l0.length + 1, fun k hk => ?_⟩
  have hf := Gt.fuel hq k (l0.length + 1) 0 (by omega) (by omega) (by omega)
  have h3 := gt_gw hq h2 (by omega) k 0 [] (List.replicate K.length 0) (by omega) (by omega) (by omega) (by rw [List.length_replicate]; exact h2.1) (by rw [hf.2, List.length_nil]; omega)
  show ((Gw.gw K k 0 ([], List.replicate K.length 0)).bind fun s => some (s.1, s.2, 0)) = _
  rw [h3, hf.1, hf.2, h2.1]
  rfl
theorem ev_likeInts_l0 (xs : List Int) (hb : xs.length ≤ 1000000) : ∀ (n i : Nat), i + n = xs.length → Ev (fun k => laws_likeInts.l0 k xs xs (i : Int)) true := by
  intro n
  induction n with
  | zero => intro i h; refine Ev_succ ?_; simp only [laws_likeInts.l0]; exact evneg (by omega) (Ev.now _)
  | succ n ih =>
    intro i h
    refine Ev_succ ?_
    simp only [laws_likeInts.l0]
    refine evpos (by omega) (evpos (by omega) (evpos (by omega) (evpos (by first | rfl | trivial) ?_)))
    rw [Tr.wrap_succ (by omega)]
    exact ih (i + 1) (by omega)
theorem ev_likeInts (xs : List Int) (hb : xs.length ≤ 1000000) : Ev (fun k => laws_likeInts.f k xs xs) true := by
  unfold laws_likeInts.f
  exact evpos rfl (ev_likeInts_l0 xs hb xs.length 0 (by omega))
theorem B_app (a b : List UInt8) : Tr.B a ++ Tr.B b = Tr.B (a ++ b) := by
  apply ByteArray.ext
  rw [ByteArray.data_append]
  simp [Tr.B]
theorem ev_textAt_l0 {d : List Int} (hd : d.length ≤ 1000) : ∀ (g : Tr.F) (q : Nat) (out : List UInt8) (pre : List Int) (N : Int), Tr.Pl d q g → N = ((pre ++ g.roots q).length : Int) → pre.length + g.len ≤ 1000 → out.length + 2 * g.size ≤ 100000 →
    Ev (fun k => impl_textAt.l0 k d (Tr.B out) (pre ++ g.roots q) N (pre.length : Int)) (Tr.B (out ++ g.txt ++ [41])) := by
  intro g
  induction g with
  | nil =>
    intro q out pre N hq hN hp ho
    refine Ev_succ ?_
    simp only [impl_textAt.l0, Tr.F.roots, List.append_nil] at hN ⊢
    refine evneg (by omega) (evpos (by rw [Tr.B_size]; omega) (evnow ?_))
    rw [show ((⟨#[41]⟩ : ByteArray)) = Tr.B [41] from rfl, B_app]
    simp [Tr.F.txt]
  | cons b n hb hn =>
    intro q out pre N hq hN hp ho
    have hql := hq.le
    simp only [Tr.F.size, Tr.F.len] at hql hp ho
    have hr2 := Tr.F.roots_len (.cons b n) q
    have hlb := Tr.F.len_le b
    simp only [Tr.F.len] at hr2
    rw [List.length_append] at hN
    refine Ev_succ ?_
    simp only [impl_textAt.l0]
    have hki : rd (pre ++ (Tr.F.cons b n).roots q) (pre.length : Int) = (q : Int) := by rw [Tr.rd_app0]; exact Tr.rd_cons0 _ _
    have hself : Ev (fun k => impl_textAt.f k d (q : Int)) (Tr.B (40 :: (b.txt ++ [41]))) := by
      refine Ev_succ ?_
      simp only [impl_textAt.f]
      refine Ev.bind (ev_kidsOf hd hq) ?_
      have := hb (q + 1) [40] [] ((b.roots (q + 1)).length : Int) hq.below (by simp) (by simp; omega) (by simp; omega)
      simp only [List.nil_append, List.length_nil, List.cons_append] at this
      exact this
    rw [hki]
    have htl := Tr.F.txt_len b
    refine evpos (by omega) (evpos (by omega) (evpos (by rw [List.length_append]; omega) (Ev.bind hself (evpos (by rw [Tr.B_size, Tr.B_size]; simp; omega) ?_))))
    have e1 : wrap64 ((pre.length : Int) + 1) = ((pre ++ [(q : Int)]).length : Int) := by rw [Tr.wrap_succ (by omega)]; simp
    rw [e1, B_app]
    have e2 : pre ++ [(q : Int)] ++ n.roots (q + 1 + b.size) = pre ++ (Tr.F.cons b n).roots q := by simp [Tr.F.roots]
    have h2 := hn (q + 1 + b.size) (out ++ (40 :: (b.txt ++ [41]))) (pre ++ [(q : Int)]) N hq.next (by rw [e2, List.length_append]; exact hN) (by simp; omega) (by simp; omega)
    have e3 : out ++ (40 :: (b.txt ++ [41])) ++ n.txt ++ [41] = out ++ (Tr.F.cons b n).txt ++ [41] := by simp [Tr.F.txt]
    rw [e2, e3] at h2
    exact h2
theorem ev_TreeText {d : List Int} {b : Tr.F} (h : Tr.Tree d (.cons b .nil)) : Ev (fun k => impl_TreeText.f k d) (Tr.B (40 :: (b.txt ++ [41])), 0) := by
  have hle := h.le
  have hp := h.pl
  have hs := hp.le
  have hlb := Tr.F.len_le b
  simp only [Tr.F.size] at hs
  have ht : Ev (fun k => impl_textAt.f k d 0) (Tr.B (40 :: (b.txt ++ [41]))) := by
    refine Ev_succ ?_
    simp only [impl_textAt.f]
    refine Ev.bind (ev_kidsOf (by omega) (p := 0) hp) ?_
    have := ev_textAt_l0 (d := d) (by omega) b 1 [40] [] ((b.roots 1).length : Int) hp.below (by simp) (by simp; omega) (by simp; omega)
    simp only [List.nil_append, List.length_nil, List.cons_append] at this
    exact this
  unfold impl_TreeText.f
  refine Ev.bind (ev_IsTree d) (evpos h.isT (Ev.bind (a := Tr.B (40 :: (b.txt ++ [41]))) ?_ (Ev.now _)))
  unfold impl_treeText.f
  exact Ev.bind ht (Ev.now _)
theorem ev_contour_l0 {d : List Int} (hd : d.length ≤ 1000) : ∀ (g : Tr.F) (q : Nat) (j : Nat) (out pre : List Int) (N : Int), Tr.Pl d q g → N = ((pre ++ g.roots q).length : Int) → pre.length + g.len ≤ 1000 → out.length + 2 * g.size ≤ 100000 → j + g.size ≤ 100000 →
    Ev (fun k => impl_contour.l0 k d (j : Int) out (pre ++ g.roots q) N (pre.length : Int)) (out ++ g.cr (j : Int)) := by
  intro g
  induction g with
  | nil =>
    intro q j out pre N hq hN hp ho hj
    refine Ev_succ ?_
    simp only [impl_contour.l0, Tr.F.roots, List.append_nil] at hN ⊢
    exact evneg (by omega) (evnow (by simp [Tr.F.cr]))
  | cons b n hb hn =>
    intro q j out pre N hq hN hp ho hj
    have hql := hq.le
    simp only [Tr.F.size, Tr.F.len] at hql hp ho hj
    have hr2 := Tr.F.roots_len (.cons b n) q
    have hlb := Tr.F.len_le b
    simp only [Tr.F.len] at hr2
    rw [List.length_append] at hN
    refine Ev_succ ?_
    simp only [impl_contour.l0]
    have hki : rd (pre ++ (Tr.F.cons b n).roots q) (pre.length : Int) = (q : Int) := by rw [Tr.rd_app0]; exact Tr.rd_cons0 _ _
    have hself : Ev (fun k => impl_contour.f k d (q : Int) ((j + 1 : Nat) : Int)) (((j + 1 : Nat) : Int) :: b.cr ((j + 1 : Nat) : Int)) := by
      refine Ev_succ ?_
      simp only [impl_contour.f]
      refine Ev.bind (ev_kidsOf hd hq) ?_
      have := hb (q + 1) (j + 1) [((j + 1 : Nat) : Int)] [] ((b.roots (q + 1)).length : Int) hq.below (by simp) (by simp; omega) (by simp; omega) (by omega)
      simpa using this
    rw [hki, Tr.wrap_succ (by omega)]
    have htl := Tr.F.cr_len b
    refine evpos (by omega) (evpos (by omega) (evpos (by rw [List.length_append]; omega) (Ev.bind hself (evpos (by rw [List.length_cons, htl]; omega) (evsome (evpos (by rw [List.length_append, List.length_cons, htl]; omega) ?_))))))
    have e1 : wrap64 ((pre.length : Int) + 1) = ((pre ++ [(q : Int)]).length : Int) := by rw [Tr.wrap_succ (by omega)]; simp
    rw [e1]
    have e2 : pre ++ [(q : Int)] ++ n.roots (q + 1 + b.size) = pre ++ (Tr.F.cons b n).roots q := by simp [Tr.F.roots]
    have h2 := hn (q + 1 + b.size) j (out ++ (((j + 1 : Nat) : Int) :: b.cr ((j + 1 : Nat) : Int)) ++ [(j : Int)]) (pre ++ [(q : Int)]) N hq.next (by rw [e2, List.length_append]; exact hN) (by simp; omega) (by simp only [List.length_append, List.length_cons, List.length_nil, htl]; omega) (by omega)
    have e3 : out ++ (((j + 1 : Nat) : Int) :: b.cr ((j + 1 : Nat) : Int)) ++ [(j : Int)] ++ n.cr (j : Int) = out ++ (Tr.F.cons b n).cr (j : Int) := by
      simp [Tr.F.cr]
    rw [e2, e3] at h2
    exact h2
theorem ev_contour {d : List Int} {b : Tr.F} (h : Tr.Tree d (.cons b .nil)) : Ev (fun k => impl_contour.f k d 0 0) (0 :: b.cr 0) := by
  have hle := h.le
  have hp := h.pl
  have hs := hp.le
  have hlb := Tr.F.len_le b
  simp only [Tr.F.size] at hs
  refine Ev_succ ?_
  simp only [impl_contour.f]
  refine Ev.bind (ev_kidsOf (by omega) (p := 0) hp) ?_
  have := ev_contour_l0 (d := d) (by omega) b 1 0 [0] [] ((b.roots 1).length : Int) hp.below (by simp) (by simp; omega) (by simp; omega) (by omega)
  simpa using this
theorem ev_ContourOf {d : List Int} {b : Tr.F} (h : Tr.Tree d (.cons b .nil)) : Ev (fun k => impl_ContourOf.f k d) (0 :: b.cr 0, 0) := by
  unfold impl_ContourOf.f
  exact Ev.bind (ev_IsTree d) (evpos h.isT (Ev.bind (ev_contour h) (Ev.now _)))
theorem ev_Reverse_l0 : ∀ (m : Nat) (pre mid post : List Int), mid.length ≤ m → (pre ++ mid ++ post).length ≤ 1000000 → Ev (fun k => slices_Reverse_int64_int64.l0 k (pre ++ mid ++ post) (pre.length : Int) ((pre.length : Int) + (mid.length : Int) - 1)) (pre ++ mid.reverse ++ post) := by
  intro m
  induction m with
  | zero =>
    intro pre mid post hm hl
    obtain rfl : mid = [] := List.length_eq_zero_iff.mp (by omega)
    refine Ev_succ ?_
    simp only [slices_Reverse_int64_int64.l0]
    exact evneg (by simp only [List.length_nil]; omega) (evnow (by simp))
  | succ m ih =>
    intro pre mid post hm hl
    cases mid with
    | nil =>
      refine Ev_succ ?_
      simp only [slices_Reverse_int64_int64.l0]
      exact evneg (by simp only [List.length_nil]; omega) (evnow (by simp))
    | cons x mid =>
      rcases List.eq_nil_or_concat mid with rfl | ⟨ms, y, rfl⟩
      · refine Ev_succ ?_
        simp only [slices_Reverse_int64_int64.l0]
        exact evneg (by simp only [List.length_cons, List.length_nil]; omega) (evnow (by simp))
      · simp only [List.concat_eq_append, List.length_append, List.length_cons, List.length_nil] at hm hl ⊢
        have hrj : rd (pre ++ x :: (ms ++ [y]) ++ post) ((pre.length + 1 + ms.length : Nat) : Int) = y := by
          rw [Tr.rd_getElem (by simp; omega)]
          rw [List.getElem_append_left (by simp; omega), List.getElem_append_right (by omega)]
          simp only [show pre.length + 1 + ms.length - pre.length = ms.length + 1 by omega, List.getElem_cons_succ]
          simp
        have hri : rd (pre ++ x :: (ms ++ [y]) ++ post) (pre.length : Int) = x := by
          rw [List.append_assoc, Tr.rd_app0]; exact Tr.rd_cons0 _ _
        have es : ((pre ++ x :: (ms ++ [y]) ++ post).set pre.length y).set (pre.length + 1 + ms.length) x = (pre ++ [y]) ++ ms ++ (x :: post) := by
          rw [List.append_assoc, List.set_append_right _ _ (by omega), Nat.sub_self]
          have e : (x :: (ms ++ [y]) ++ post).set 0 y = y :: (ms ++ (y :: post)) := by simp
          rw [e, List.set_append_right _ _ (by omega), show pre.length + 1 + ms.length - pre.length = ms.length + 1 by omega, List.set_cons_succ, List.set_append_right _ _ (by omega), Nat.sub_self]
          simp
        have e4 : (pre.length : Int) + ((ms.length + (0 + 1) + 1 : Nat) : Int) - 1 = ((pre.length + 1 + ms.length : Nat) : Int) := by omega
        rw [e4]
        refine Ev_succ ?_
        simp only [slices_Reverse_int64_int64.l0]
        rw [hrj, hri, Int.toNat_natCast, Int.toNat_natCast, es]
        refine evpos (by omega) (evpos (by omega) (evpos (by simp; omega) (evpos (by omega) (evpos (by simp; omega) ?_))))
        have h2 := ih (pre ++ [y]) ms (x :: post) (by omega) (by simp; omega)
        rw [Tr.wrap_succ (by omega), Tr.wrap_id (x := ((pre.length + 1 + ms.length : Nat) : Int) - 1) (by omega) (by omega)]
        have e5 : ((pre ++ [y]).length : Int) = ((pre.length + 1 : Nat) : Int) := by simp
        have e6 : ((pre ++ [y]).length : Int) + (ms.length : Int) - 1 = ((pre.length + 1 + ms.length : Nat) : Int) - 1 := by rw [e5]; omega
        rw [e6, e5] at h2
        have e7 : pre ++ [y] ++ ms.reverse ++ x :: post = pre ++ (x :: (ms ++ [y])).reverse ++ post := by simp
        rw [e7] at h2
        exact h2
theorem ev_Reverse (l : List Int) (hl : l.length ≤ 1000000) : Ev (fun k => slices_Reverse_int64_int64.f k l) l.reverse := by
  unfold slices_Reverse_int64_int64.f
  have h := ev_Reverse_l0 l.length [] l [] (by omega) (by simpa using hl)
  rw [Tr.wrap_id (by omega) (by omega)]
  simpa using h
theorem ev_mirrored_l0 {d : List Int} (hd : d.length ≤ 1000) : ∀ (g : Tr.F) (q : Nat) (out pre post : List Int) (N : Int) (R : List Int), Tr.Pl d q g → (N = ((pre.length + g.len + post.length : Nat) : Int)) → pre.length + g.len + post.length ≤ 1000 → out.length + g.size ≤ 100000 →
    Ev (fun k => impl_mirrored.l0 k d (out ++ g.mir.enc) (pre ++ (g.roots q).reverse ++ post) N ((pre.length + g.len : Nat) : Int)) R →
    Ev (fun k => impl_mirrored.l0 k d out (pre ++ (g.roots q).reverse ++ post) N (pre.length : Int)) R := by
  intro g
  induction g with
  | nil =>
    intro q out pre post N R hq hN hp ho hR
    simpa [Tr.F.mir, Tr.F.enc, Tr.F.len] using hR
  | cons b n hb hn =>
    intro q out pre post N R hq hN hp ho hR
    have hql := hq.le
    have hlb := Tr.F.len_le b
    simp only [Tr.F.size, Tr.F.len] at hql hp ho hN hR
    have hself : Ev (fun k => impl_mirrored.f k d (q : Int)) (Tr.F.cons b.mir .nil).enc := by
      refine Ev_succ ?_
      simp only [impl_mirrored.f]
      refine evpos (by omega) (evpos (by omega) (Ev.bind (ev_kidsOf hd hq) (Ev.bind (ev_Reverse _ (by rw [Tr.F.roots_len]; omega)) ?_)))
      have h1 := hb (q + 1) [rd d (q : Int)] [] [] ((b.roots (q + 1)).length : Int) ([rd d (q : Int)] ++ b.mir.enc) hq.below (by rw [Tr.F.roots_len]; simp) (by simp; omega) (by simp; omega) (by
        refine Ev_succ ?_
        simp only [impl_mirrored.l0]
        exact evneg (by rw [Tr.F.roots_len]; simp) (Ev.now _))
      rw [hq.deg] at h1 ⊢
      have e : (Tr.F.cons b.mir .nil).enc = [(b.len : Int)] ++ b.mir.enc := by simp [Tr.F.enc, Tr.F.mir_len]
      rw [e]
      simpa using h1
    have hrn := Tr.F.roots_len n (q + 1 + b.size)
    have hms := Tr.F.mir_size n
    have h2 := hn (q + 1 + b.size) out pre ((q : Int) :: post) N R hq.next (by rw [hN]; simp; omega) (by simp; omega) (by omega) (by
      refine Ev_succ ?_
      simp only [impl_mirrored.l0]
      have hrd : rd (pre ++ (n.roots (q + 1 + b.size)).reverse ++ (q : Int) :: post) ((pre.length + n.len : Nat) : Int) = (q : Int) := by
        have := Tr.rd_app0 (pre ++ (n.roots (q + 1 + b.size)).reverse) ((q : Int) :: post)
        rw [List.length_append, List.length_reverse, hrn] at this
        rw [this]; exact Tr.rd_cons0 _ _
      rw [hrd]
      refine evpos (by omega) (evpos (by omega) (evpos (by simp [hrn]; omega) (Ev.bind hself (evpos (by simp only [List.length_append, Tr.F.enc_len, Tr.F.size, Tr.F.mir_size]; omega) ?_))))
      rw [Tr.wrap_succ (by omega)]
      have e1 : out ++ n.mir.enc ++ (Tr.F.cons b.mir .nil).enc = out ++ (Tr.F.cons b n).mir.enc := by simp only [Tr.F.mir, Tr.F.app_enc, List.append_assoc]
      have e2 : pre ++ (n.roots (q + 1 + b.size)).reverse ++ (q : Int) :: post = pre ++ ((Tr.F.cons b n).roots q).reverse ++ post := by simp [Tr.F.roots]
      rw [e1, e2, show pre.length + n.len + 1 = pre.length + (1 + n.len) by omega]
      exact hR)
    have e2 : pre ++ (n.roots (q + 1 + b.size)).reverse ++ (q : Int) :: post = pre ++ ((Tr.F.cons b n).roots q).reverse ++ post := by simp [Tr.F.roots]
    rw [e2] at h2
    exact h2
theorem ev_MirrorOf {d : List Int} {b : Tr.F} (h : Tr.Tree d (.cons b .nil)) : Ev (fun k => impl_MirrorOf.f k d) ((Tr.F.cons b .nil).mir.enc, 0) := by
  have hle := h.le
  have hp := h.pl
  have hs := hp.le
  have hlb := Tr.F.len_le b
  simp only [Tr.F.size] at hs
  unfold impl_MirrorOf.f
  refine Ev.bind (ev_IsTree d) (evpos h.isT (Ev.bind (a := (Tr.F.cons b .nil).mir.enc) ?_ (Ev.now _)))
  refine Ev_succ ?_
  simp only [impl_mirrored.f]
  refine evpos (by omega) (evpos (by omega) (Ev.bind (ev_kidsOf (by omega) (p := 0) hp) (Ev.bind (ev_Reverse _ (by rw [Tr.F.roots_len]; omega)) ?_)))
  have hdg := hp.deg
  have h1 := ev_mirrored_l0 (d := d) (by omega) b 1 [rd d 0] [] [] ((b.roots 1).length : Int) ([rd d 0] ++ b.mir.enc) hp.below (by rw [Tr.F.roots_len]; simp) (by simp; omega) (by simp; omega) (by
    refine Ev_succ ?_
    simp only [impl_mirrored.l0]
    exact evneg (by rw [Tr.F.roots_len]; simp) (Ev.now _))
  rw [show ((0 : Nat) : Int) = 0 from rfl] at hdg
  rw [hdg] at h1 ⊢
  have e : (Tr.F.cons b .nil).mir.enc = [(b.len : Int)] ++ b.mir.enc := by simp [Tr.F.mir, Tr.F.app, Tr.F.enc, Tr.F.mir_len]
  rw [e]
  simpa using h1
theorem bt_mid (Lp : List UInt8) (c : UInt8) (Ls : List UInt8) : bt (Tr.B (Lp ++ c :: Ls)) (Lp.length : Int) = (c.toNat : Int) := by
  rw [Tr.B_bt _ _ (by simp)]; simp
theorem rd_mid (P : List Int) (x : Int) (M : List Int) : rd (P ++ x :: M) (P.length : Int) = x := by rw [Tr.rd_app0]; exact Tr.rd_cons0 _ _
theorem set_mid (P : List Int) (x y : Int) (M : List Int) : (P ++ x :: M).set P.length y = P ++ y :: M := by
  rw [List.set_append_right _ _ (by omega), Nat.sub_self, List.set_cons_zero]
theorem ev_parseTree_l0 : ∀ (g : Tr.F) (P M O : List Int) (x : Int) (T Lp Ls : List UInt8) (N : Int) (R : List Int × Bool), T = Lp ++ g.txt ++ Ls → N = (T.length : Int) → T.length ≤ 100000 → 0 ≤ x → x + g.len ≤ 1000 → P.length + M.length + 1 + g.size ≤ 1000 → O.length + g.size ≤ 1000 →
    Ev (fun k => impl_parseTree.l0 k (Tr.B T) (P ++ (x + (g.len : Int)) :: (M ++ g.enc)) (O ++ [(P.length : Int)]) N ((Lp.length + 2 * g.size : Nat) : Int)) R →
    Ev (fun k => impl_parseTree.l0 k (Tr.B T) (P ++ x :: M) (O ++ [(P.length : Int)]) N (Lp.length : Int)) R := by
  intro g
  induction g with
  | nil =>
    intro P M O x T Lp Ls N R hT hN hT2 hx hx2 hP hO hR
    simpa [Tr.F.len, Tr.F.enc, Tr.F.size] using hR
  | cons b n hb hn =>
    intro P M O x T Lp Ls N R hT hN hT2 hx hx2 hP hO hR
    have hlb := Tr.F.len_le b
    have htb := Tr.F.txt_len b
    have htn := Tr.F.txt_len n
    simp only [Tr.F.len, Tr.F.size] at hx2 hP hO hR
    have hT' : T = Lp ++ 40 :: (b.txt ++ 41 :: (n.txt ++ Ls)) := by rw [hT]; simp [Tr.F.txt]
    have hTl : T.length = Lp.length + 1 + 2 * b.size + 1 + 2 * n.size + Ls.length := by rw [hT']; simp [htb, htn]; omega
    have hbt : bt (Tr.B T) (Lp.length : Int) = 40 := by rw [hT', bt_mid]; rfl
    have hol : (O ++ [(P.length : Int)]).length = O.length + 1 := by simp
    have hdl : (P ++ x :: M).length = P.length + M.length + 1 := by simp; omega
    have hsl : (P ++ (x + 1) :: M).length = P.length + M.length + 1 := by simp; omega
    have hl40 : (Lp ++ [40]).length = Lp.length + 1 := by simp
    have hw : wrap64 (((O ++ [(P.length : Int)]).length : Int) - 1) = (O.length : Int) := by rw [hol, Tr.wrap_id (by omega) (by omega)]; omega
    have hr : rd (O ++ [(P.length : Int)]) (O.length : Int) = (P.length : Int) := rd_mid O _ []
    refine Ev_succ ?_
    simp only [impl_parseTree.l0]
    rw [hw, hr, hbt, rd_mid, Int.toNat_natCast, set_mid, Tr.wrap_id (x := x + 1) (by omega) (by omega), Tr.wrap_succ (by omega)]
    refine evpos (by omega) (evpos (by omega) (evpos (by rw [Tr.B_size]; omega) (evpos rfl (evpos (by omega) (evpos (by omega) (evpos (by omega) (evpos (by omega) (evpos (by omega) (evsome (evpos (by omega) (evpos (by omega) ?_)))))))))))
    have h1 := hb (P ++ (x + 1) :: M) [] (O ++ [(P.length : Int)]) 0 T (Lp ++ [40]) (41 :: (n.txt ++ Ls)) N R (by rw [hT']; simp) hN hT2 (by omega) (by omega) (by simp only [hsl, List.length_nil]; omega) (by omega) (by
      have hbt2 : bt (Tr.B T) (((Lp ++ [40]).length + 2 * b.size : Nat) : Int) = 41 := by
        have e : T = (Lp ++ 40 :: b.txt) ++ 41 :: (n.txt ++ Ls) := by rw [hT']; simp
        have e2 : (Lp ++ [40]).length + 2 * b.size = (Lp ++ 40 :: b.txt).length := by simp [htb]; omega
        rw [e2, e, bt_mid]; rfl
      have hol2 : (O ++ [(P.length : Int)] ++ [((P ++ (x + 1) :: M).length : Int)]).length = O.length + 2 := by simp
      have hw2 : wrap64 (((O ++ [(P.length : Int)] ++ [((P ++ (x + 1) :: M).length : Int)]).length : Int) - 1) = ((O ++ [(P.length : Int)]).length : Int) := by rw [hol2, hol, Tr.wrap_id (by omega) (by omega)]; omega
      refine Ev_succ ?_
      simp only [impl_parseTree.l0]
      rw [hbt2, hw2, Int.toNat_natCast, List.take_left, Tr.wrap_succ (by omega)]
      refine evpos (by omega) (evpos (by omega) (evpos (by rw [Tr.B_size]; omega) (evneg (by omega) (evpos rfl (evneg (by omega) (evpos (by omega) (evpos (by omega) ?_)))))))
      have h2 := hn P (M ++ (b.len : Int) :: b.enc) O (x + 1) T (Lp ++ 40 :: (b.txt ++ [41])) Ls N R (by rw [hT']; simp) hN hT2 (by omega) (by omega) (by simp [Tr.F.enc_len]; omega) (by omega) (by
        have e1 : x + 1 + (n.len : Int) = x + ((1 + n.len : Nat) : Int) := by omega
        have e2 : M ++ (b.len : Int) :: b.enc ++ n.enc = M ++ (Tr.F.cons b n).enc := by simp [Tr.F.enc]
        have e3 : (Lp ++ 40 :: (b.txt ++ [41])).length + 2 * n.size = Lp.length + 2 * (1 + b.size + n.size) := by simp [htb]; omega
        rw [e1, e2, e3]; exact hR)
      have e4 : (P ++ (x + 1) :: M) ++ (0 + (b.len : Int)) :: ([] ++ b.enc) = P ++ (x + 1) :: (M ++ (b.len : Int) :: b.enc) := by simp
      have e5 : (Lp ++ 40 :: (b.txt ++ [41])).length = (Lp ++ [40]).length + 2 * b.size + 1 := by simp [htb]; omega
      rw [e5] at h2
      rw [e4]
      exact h2)
    have e6 : ((P ++ (x + 1) :: M).length : Int) = ((P ++ x :: M).length : Int) := by simp
    have e7 : (Lp ++ [40]).length = Lp.length + 1 := by simp
    rw [e6, e7] at h1
    exact h1
theorem ev_ParseTree {d : List Int} {b : Tr.F} (h : Tr.Tree d (.cons b .nil)) : Ev (fun k => impl_ParseTree.f k (Tr.B (40 :: (b.txt ++ [41])))) (d, 0) := by
  have hf := h.few
  have he := h.enc
  have hi := h.isT
  have hlb := Tr.F.len_le b
  have htb := Tr.F.txt_len b
  simp only [Tr.F.size] at hf
  have hd : d = (b.len : Int) :: b.enc := by rw [he]; simp [Tr.F.enc]
  unfold impl_ParseTree.f
  refine Ev.bind (a := (d, true)) ?_ (evpos rfl (Ev.now _))
  unfold impl_parseTree.f
  have hsz : (Tr.B (40 :: (b.txt ++ [41]))).size = 2 * b.size + 2 := by rw [Tr.B_size]; simp [htb]
  rw [hsz]
  refine evneg (by omega) (Ev_succ ?_)
  simp only [impl_parseTree.l0]
  have hb0 : bt (Tr.B (40 :: (b.txt ++ [41]))) 0 = 40 := bt_mid [] 40 (b.txt ++ [41])
  rw [hb0]
  refine evpos (by omega) (evpos (by omega) (evpos (by rw [hsz]; omega) (evpos rfl (evneg (by simp) (evneg (by omega) (evpos (by simp) (evpos (by simp) ?_)))))))
  have h1 := ev_parseTree_l0 b [] [] [] 0 (40 :: (b.txt ++ [41])) [40] [41] ((2 * b.size + 2 : Nat) : Int) (d, true) (by simp) (by simp [htb]; omega) (by simp [htb]; omega) (by omega) (by omega) (by simp; omega) (by simp; omega) (by
    have hbt2 : bt (Tr.B (40 :: (b.txt ++ [41]))) (([(40 : UInt8)].length + 2 * b.size : Nat) : Int) = 41 := by
      have := bt_mid (40 :: b.txt) 41 []
      rw [show (40 :: b.txt : List UInt8).length = [(40 : UInt8)].length + 2 * b.size by simp [htb]; omega] at this
      exact this
    refine Ev_succ ?_
    simp only [impl_parseTree.l0]
    have hwz : wrap64 ((([] ++ [(([] : List Int).length : Int)] : List Int).length : Int) - 1) = 0 := by
      show wrap64 (1 - 1) = 0
      unfold wrap64; omega
    rw [hbt2, hsz, hwz]
    refine evpos (by simp; omega) (evpos (by omega) (evpos (by simp; omega) (evneg (by omega) (evpos rfl (evneg (by simp) (evpos (by omega) (evpos (by omega) ?_)))))))
    rw [Tr.wrap_succ (by simp; omega)]
    refine Ev_succ ?_
    simp only [impl_parseTree.l0]
    refine evneg (by simp; omega) (evpos (by simp) ?_)
    have e : ([] : List Int) ++ (0 + (b.len : Int)) :: ([] ++ b.enc) = d := by rw [hd]; simp
    rw [e]
    refine Ev.bind (ev_isTree d) ?_
    rw [hi]; exact Ev.now _)
  rw [show wrap64 (0 + 1) = 1 by unfold wrap64; omega]
  exact h1
theorem ev_binaryOf {d : List Int} (hd : d.length ≤ 1000) : ∀ (g : Tr.F) (q : Nat), Tr.Pl d q g → Ev (fun k => impl_binaryOf.f k d (g.roots q)) (Tr.B (Tr.tx g)) := by
  intro g
  induction g with
  | nil =>
    intro q hq
    refine Ev_succ ?_
    simp only [impl_binaryOf.f, Tr.F.roots]
    exact evpos (by simp) (Ev.now _)
  | cons b n hb hn =>
    intro q hq
    have hl := hq.le
    simp only [Tr.F.size] at hl
    have htb := Tr.tx_length b
    have htn := Tr.tx_length n
    refine Ev_succ ?_
    simp only [impl_binaryOf.f, Tr.F.roots, Tr.rd_cons0]
    refine evneg (by simp only [List.length_cons]; omega) (evpos (by simp only [List.length_cons]; omega) (Ev.bind (ev_kidsOf hd hq) (Ev.bind (hb (q + 1) hq.below) (evpos (by rw [Tr.B_size]; omega) (evpos (by simp only [List.length_cons]; omega) (Ev.bind (a := Tr.B (Tr.tx n)) (hn _ hq.next) (evpos ?_ (evnow ?_))))))))
    · rw [show ((⟨#[49]⟩ : ByteArray)) = Tr.B [49] from rfl, B_app, Tr.B_size, Tr.B_size]; simp; omega
    · rw [show ((⟨#[49]⟩ : ByteArray)) = Tr.B [49] from rfl, B_app, B_app]; simp [Tr.tx]
theorem ev_BinaryOf {d : List Int} {b : Tr.F} (h : Tr.Tree d (.cons b .nil)) : Ev (fun k => impl_BinaryOf.f k d) (Tr.B (Tr.tx b), 0) := by
  have hle := h.le
  unfold impl_BinaryOf.f
  exact Ev.bind (ev_IsTree d) (evpos h.isT (Ev.bind (ev_kidsOf (by omega) (p := 0) h.pl) (Ev.bind (ev_binaryOf (by omega) b 1 h.pl.below) (Ev.now _))))
theorem ev_listOf : ∀ (f : Tr.F), f.size ≤ 400 → Ev (fun k => impl_listOf.f k (Tr.B (Tr.tx f))) ((f.len : Int), f.enc) := by
  intro f
  induction f with
  | nil =>
    intro _
    refine Ev_succ ?_
    simp only [impl_listOf.f, Tr.B_toList]
    exact evpos rfl (Ev.now _)
  | cons b n hb hn =>
    intro hs
    simp only [Tr.F.size] at hs
    have hlb := Tr.F.len_le b
    have hln := Tr.F.len_le n
    refine Ev_succ ?_
    simp only [impl_listOf.f, Tr.B_toList]
    refine evneg (Tr.tx_ne b n) (Ev.bind (ev_impl_sides b n (by omega)) (Ev.bind (hb (by omega)) (Ev.bind (hn (by omega)) ?_)))
    have e : slices_Concat.f [[(b.len : Int)], b.enc, n.enc] = some ((Tr.F.cons b n).enc) := by
      unfold slices_Concat.f
      rw [if_pos (by simp [Tr.F.enc_len]; omega)]
      simp [Tr.F.enc]
    dsimp only
    rw [e, Tr.wrap_succ (by omega)]
    exact evsome (evnow (by simp only [Tr.F.len]; congr 2; omega))
theorem ev_TreeOfBinary {d : List Int} {b : Tr.F} (h : Tr.Tree d (.cons b .nil)) : Ev (fun k => impl_TreeOfBinary.f k (Tr.B (Tr.tx b))) (d, 0) := by
  have hf := h.few
  have he := h.enc
  simp only [Tr.F.size] at hf
  have htb := Tr.tx_length b
  unfold impl_TreeOfBinary.f
  refine Ev.bind (ev_IsBinary (Tr.tx b)) (evpos (decide_eq_true ⟨by omega, Tr.en_self b⟩) (Ev.bind (ev_listOf b (by omega)) (evsome (evpos (by simp [Tr.F.enc_len]; omega) (evnow ?_)))))
  rw [he]; simp [Tr.F.enc]
theorem ev_depths_l1 (L d : List Int) (A1 A2 W : List Int) (j : Nat) (N : Int) (i : Nat) (R : List Int × Bool) (hL : L = (A1 ++ [(j : Int)]) ++ (A2 ++ W)) (hA : ∀ y ∈ A2, (j : Int) + 1 ≤ y) (hl : L.length ≤ 1000) (hj : j ≤ 1000) (hd : A1.length < d.length)
    (hR : Ev (fun k => impl_treeOfDepths.l0 k L (d.set A1.length (wrap64 (rd d (A1.length : Int) + 1))) L N (wrap64 ((i : Int) + 1))) R) : ∀ s : Nat, s ≤ A2.length → Ev (fun k => impl_treeOfDepths.l1 k L d ((j + 1 : Nat) : Int) ((A1.length + s : Nat) : Int) L N (i : Int)) R := by
  have hLl : L.length = A1.length + 1 + A2.length + W.length := by rw [hL]; simp; omega
  have hw : wrap64 (((j + 1 : Nat) : Int) - 1) = (j : Int) := by rw [Tr.wrap_id (by omega) (by omega)]; omega
  intro s
  induction s with
  | zero =>
    intro _
    have hr : rd L ((A1.length + 0 : Nat) : Int) = (j : Int) := by
      rw [hL, List.append_assoc]; exact rd_mid A1 _ _
    refine Ev_succ ?_
    simp only [impl_treeOfDepths.l1]
    rw [hr, hw]
    exact evpos (by omega) (evpos (by omega) (evpos (by omega) (evpos (by first | rfl | trivial) (evpos (by omega) (by rw [Int.toNat_natCast]; exact hR)))))
  | succ s ih =>
    intro hs
    have hr : (j : Int) + 1 ≤ rd L ((A1.length + (s + 1) : Nat) : Int) := by
      have h1 := Tr.rd_app (A1 ++ [(j : Int)]) (A2 ++ W) s
      rw [← hL, show (A1 ++ [(j : Int)]).length + s = A1.length + (s + 1) by simp; omega] at h1
      rw [h1, Tr.rd_left _ _ _ (by omega) (by omega)]
      exact hA _ (Tr.rd_mem (by omega) (by omega))
    refine Ev_succ ?_
    simp only [impl_treeOfDepths.l1]
    rw [hw]
    refine evpos (by omega) (evpos (by omega) (evpos (by omega) (evneg (by omega) ?_)))
    rw [show wrap64 (((A1.length + (s + 1) : Nat) : Int) - 1) = ((A1.length + s : Nat) : Int) by rw [Tr.wrap_id (by omega) (by omega)]; omega]
    exact ih (by omega)
theorem ev_depths_l0 : ∀ (g : Tr.F) (j : Nat) (A1 A2 Z P M : List Int) (x : Int) (m : Nat) (L : List Int) (N : Int) (R : List Int × Bool), L = A1 ++ (j : Int) :: (A2 ++ (g.depths ((j : Int) + 1) ++ Z)) → N = (L.length : Int) → L.length ≤ 1000 → j + g.size ≤ 1000 → P.length = A1.length → M.length = A2.length → (∀ y ∈ A2, (j : Int) + 1 ≤ y) → (∀ y ∈ L, y ≤ 1000) → 0 ≤ x → x + g.len ≤ 1000 →
    Ev (fun k => impl_treeOfDepths.l0 k L (P ++ (x + (g.len : Int)) :: (M ++ (g.enc ++ List.replicate m 0))) L N ((A1.length + 1 + A2.length + g.size : Nat) : Int)) R →
    Ev (fun k => impl_treeOfDepths.l0 k L (P ++ x :: (M ++ List.replicate (g.size + m) 0)) L N ((A1.length + 1 + A2.length : Nat) : Int)) R := by
  intro g
  induction g with
  | nil =>
    intro j A1 A2 Z P M x m L N R hL hN hl hj hP hM hA hB hx hx2 hR
    simpa [Tr.F.len, Tr.F.enc, Tr.F.size] using hR
  | cons b n hb hn =>
    intro j A1 A2 Z P M x m L N R hL hN hl hj hP hM hA hB hx hx2 hR
    have hlb := Tr.F.len_le b
    have hdb := Tr.F.depths_len b ((j : Int) + 1 + 1)
    simp only [Tr.F.len, Tr.F.size] at hx2 hR hj
    have hL1 : L = (A1 ++ (j : Int) :: A2) ++ ((j : Int) + 1) :: (b.depths ((j : Int) + 1 + 1) ++ (n.depths ((j : Int) + 1) ++ Z)) := by rw [hL]; simp [Tr.F.depths]
    have hAl : (A1 ++ (j : Int) :: A2).length = A1.length + 1 + A2.length := by simp; omega
    have hLl : A1.length + 1 + A2.length + 1 + b.size ≤ L.length := by
      rw [hL1]; simp [hdb]; omega
    have hri : rd L ((A1.length + 1 + A2.length : Nat) : Int) = (j : Int) + 1 := by rw [hL1, ← hAl]; exact rd_mid _ _ _
    have hr1 : (j : Int) ≤ rd L ((A1.length + A2.length : Nat) : Int) := by
      rcases List.eq_nil_or_concat A2 with h2 | ⟨B2, z, h2⟩
      · subst h2
        rw [hL]
        have := rd_mid A1 (j : Int) ([] ++ ((Tr.F.cons b n).depths ((j : Int) + 1) ++ Z))
        simp only [List.length_nil, Nat.add_zero]
        rw [this]; omega
      · have hz := hA z (by rw [h2]; simp)
        have e : L = (A1 ++ (j : Int) :: B2) ++ z :: (((j : Int) + 1) :: (b.depths ((j : Int) + 1 + 1) ++ (n.depths ((j : Int) + 1) ++ Z))) := by rw [hL1, h2]; simp
        have e2 : A1.length + A2.length = (A1 ++ (j : Int) :: B2).length := by rw [h2]; simp
        rw [e2, e, rd_mid]; omega
    have hr2 : rd L ((A1.length + A2.length : Nat) : Int) ≤ 1000 := hB _ (Tr.rd_mem (by omega) (by omega))
    refine Ev_succ ?_
    simp only [impl_treeOfDepths.l0]
    rw [hri]
    rw [show wrap64 (((A1.length + 1 + A2.length : Nat) : Int) - 1) = ((A1.length + A2.length : Nat) : Int) by rw [Tr.wrap_id (by omega) (by omega)]; omega]
    refine evpos (by omega) (evpos (by omega) (evpos (by omega) (evneg ?_ (evneg (by omega) (evpos (by omega) (evpos (by omega) (evpos (by omega) ?_)))))))
    · rw [show (((j : Int) + 1) == 0) = false from beq_eq_false_iff_ne.mpr (by omega), show (((A1.length + 1 + A2.length : Nat) : Int) == 0) = false from beq_eq_false_iff_ne.mpr (by omega)]; decide
    generalize hlast : rd L ((A1.length + A2.length : Nat) : Int) = last at hr1 hr2 ⊢
    rw [show decide ((j : Int) + 1 > wrap64 (last + 1)) = false from decide_eq_false (by rw [Tr.wrap_id (by omega) (by omega)]; omega)]
    refine Ev_succ ?_
    simp only [impl_treeOfDepths.j2]
    refine evneg (by simp) ?_
    rw [show wrap64 (((A1.length + 1 + A2.length : Nat) : Int) - 1) = ((A1.length + A2.length : Nat) : Int) by rw [Tr.wrap_id (by omega) (by omega)]; omega]
    refine ev_depths_l1 L _ A1 A2 ((Tr.F.cons b n).depths ((j : Int) + 1) ++ Z) j N (A1.length + 1 + A2.length) R (by rw [hL]; simp) hA hl (by omega) (by rw [← hP]; simp) ?_ A2.length (Nat.le_refl _)
    rw [← hP, rd_mid, set_mid, Tr.wrap_id (x := x + 1) (by omega) (by omega), Tr.wrap_succ (by omega)]
    have h1 := hb (j + 1) (A1 ++ (j : Int) :: A2) [] (n.depths ((j : Int) + 1) ++ Z) (P ++ (x + 1) :: M) [] 0 (n.size + m) L N R (by rw [hL1]; simp) hN hl (by omega) (by simp [hP, hM]) rfl (by simp) hB (by omega) (by omega) (by
      have h2 := hn j A1 (A2 ++ ((j : Int) + 1) :: b.depths ((j : Int) + 1 + 1)) Z P (M ++ (b.len : Int) :: b.enc) (x + 1) m L N R (by rw [hL1]; simp) hN hl (by omega) hP (by simp [hM, hdb, Tr.F.enc_len]) (fun y hy => by
        rw [List.mem_append, List.mem_cons] at hy
        rcases hy with hy | hy | hy
        · exact hA y hy
        · omega
        · have := Tr.depths_ge b _ y hy; omega) hB (by omega) (by omega) (by
        have e1 : x + 1 + (n.len : Int) = x + ((1 + n.len : Nat) : Int) := by omega
        have e2 : M ++ (b.len : Int) :: b.enc ++ (n.enc ++ List.replicate m 0) = M ++ ((Tr.F.cons b n).enc ++ List.replicate m 0) := by simp [Tr.F.enc]
        have e3 : A1.length + 1 + (A2 ++ ((j : Int) + 1) :: b.depths ((j : Int) + 1 + 1)).length + n.size = A1.length + 1 + A2.length + (1 + b.size + n.size) := by simp [hdb]; omega
        rw [e1, e2, e3]; exact hR)
      have e4 : (P ++ (x + 1) :: M) ++ (0 + (b.len : Int)) :: ([] ++ (b.enc ++ List.replicate (n.size + m) 0)) = P ++ (x + 1) :: (M ++ (b.len : Int) :: b.enc ++ List.replicate (n.size + m) 0) := by simp
      have e5 : A1.length + 1 + (A2 ++ ((j : Int) + 1) :: b.depths ((j : Int) + 1 + 1)).length = (A1 ++ (j : Int) :: A2).length + 1 + ([] : List Int).length + b.size := by simp [hdb]; omega
      rw [e5] at h2
      rw [e4]
      exact h2)
    have e6 : (P ++ (x + 1) :: M) ++ 0 :: ([] ++ List.replicate (b.size + (n.size + m)) 0) = P ++ (x + 1) :: (M ++ List.replicate (1 + b.size + n.size + m) 0) := by
      rw [show 1 + b.size + n.size + m = (b.size + (n.size + m)) + 1 by omega, List.replicate_succ]; simp
    have e7 : (A1 ++ (j : Int) :: A2).length + 1 + ([] : List Int).length = P.length + 1 + A2.length + 1 := by simp [hP]; omega
    rw [e6, e7] at h1
    exact h1
theorem ev_treeOfDepths {d : List Int} {b : Tr.F} (h : Tr.Tree d (.cons b .nil)) : Ev (fun k => impl_treeOfDepths.f k ((Tr.F.cons b .nil).depths 0)) (d, true) := by
  have hf := h.few
  have he := h.enc
  have hlb := Tr.F.len_le b
  simp only [Tr.F.size] at hf
  have hdl := Tr.F.depths_len b (0 + 1)
  have hd : d = (b.len : Int) :: b.enc := by rw [he]; simp [Tr.F.enc]
  have hLe : (Tr.F.cons b .nil).depths 0 = 0 :: b.depths (0 + 1) := by simp [Tr.F.depths]
  have hL : ((Tr.F.cons b .nil).depths 0).length = b.size + 1 := by rw [hLe, List.length_cons, hdl]
  have hB : ∀ y ∈ (Tr.F.cons b .nil).depths 0, y ≤ 1000 := fun y hy => by have := Tr.depths_le _ _ y hy; simp only [Tr.F.size] at this; omega
  generalize hLL : (Tr.F.cons b .nil).depths 0 = L at *
  unfold impl_treeOfDepths.f
  refine evneg (by omega) (Ev_succ ?_)
  simp only [impl_treeOfDepths.j0]
  refine evneg (by simp; omega) (evpos (by omega) (evpos (by omega) (Ev_succ ?_)))
  have hr0 : rd L 0 = 0 := by rw [hLe]; exact Tr.rd_cons0 _ _
  rw [Int.toNat_natCast, hL]
  simp only [impl_treeOfDepths.l0]
  rw [hr0]
  refine evpos (by omega) (evpos (by omega) (evpos (by omega) (evneg (by decide) (evneg (by omega) (evneg (by omega) (Ev_succ ?_))))))
  simp only [impl_treeOfDepths.j2]
  refine evneg (by simp) (Ev_succ ?_)
  simp only [impl_treeOfDepths.l1]
  rw [show wrap64 (0 - 1) = -1 by unfold wrap64; omega, show wrap64 (0 + 1) = 1 by unfold wrap64; omega]
  refine evneg (by omega) ?_
  have h1 := ev_depths_l0 b 0 [] [] [] [] [] 0 0 L ((b.size + 1 : Nat) : Int) (d, true) (by rw [hLe]; simp) (by omega) (by omega) (by omega) rfl rfl (by simp) hB (by omega) (by omega) (by
    refine Ev_succ ?_
    simp only [impl_treeOfDepths.l0]
    exact evneg (by simp; omega) (evnow (by rw [hd]; simp)))
  have e : [] ++ (0 : Int) :: ([] ++ List.replicate (b.size + 0) 0) = List.replicate (b.size + 1) 0 := by rw [List.replicate_succ]; simp
  rw [e] at h1
  exact h1
theorem ev_slEq_l0 (xs : List Int) (hb : xs.length ≤ 1000000) : ∀ (n i : Nat), i + n = xs.length → Ev (fun k => slices_Equal_int64_int64.l0 k xs xs (xs.length : Int) (i : Int)) true := by
  intro n
  induction n with
  | zero => intro i h; refine Ev_succ ?_; simp only [slices_Equal_int64_int64.l0]; exact evneg (by omega) (Ev.now _)
  | succ n ih =>
    intro i h
    refine Ev_succ ?_
    simp only [slices_Equal_int64_int64.l0]
    refine evpos (by omega) (evpos (by omega) (evpos (by omega) (evpos (by omega) (evpos (by first | rfl | trivial) ?_))))
    rw [Tr.wrap_succ (by omega)]
    exact ih (i + 1) (by omega)
theorem ev_slEq (xs : List Int) (hb : xs.length ≤ 1000000) : Ev (fun k => slices_Equal_int64_int64.f k xs xs) true := by
  unfold slices_Equal_int64_int64.f
  exact evpos rfl (ev_slEq_l0 xs hb xs.length 0 (by omega))
theorem ev_TreeOfContour_l0 (L : List Int) (hl : L.length ≤ 1000) (hB : ∀ y ∈ L, 0 ≤ y ∧ y ≤ 1000) (R : List Int × Int) : ∀ (s pre out : List Int) (p : Int), L = pre ++ p :: s → out.length ≤ pre.length + 1 → Ev (fun k => impl_TreeOfContour.l0 k L (out ++ Tr.ups p s) L (L.length : Int) (L.length : Int)) R →
    Ev (fun k => impl_TreeOfContour.l0 k L out L (L.length : Int) ((pre.length + 1 : Nat) : Int)) R := by
  intro s
  induction s with
  | nil =>
    intro pre out p hL ho hR
    have e : L.length = pre.length + 1 := by rw [hL]; simp
    rw [← e]; simpa [Tr.ups] using hR
  | cons x s ih =>
    intro pre out p hL ho hR
    have hlen : L.length = pre.length + 2 + s.length := by rw [hL]; simp; omega
    have hp : rd L (pre.length : Int) = p := by rw [hL]; exact rd_mid _ _ _
    have hx : rd L ((pre.length + 1 : Nat) : Int) = x := by
      have := rd_mid (pre ++ [p]) x s
      rw [show (pre ++ [p]).length = pre.length + 1 by simp] at this
      rw [hL]; simpa using this
    have hpb := hB p (by rw [hL]; simp)
    refine Ev_succ ?_
    simp only [impl_TreeOfContour.l0]
    rw [show wrap64 (((pre.length + 1 : Nat) : Int) - 1) = (pre.length : Int) by rw [Tr.wrap_id (by omega) (by omega)]; omega, hp, hx, Tr.wrap_id (x := p + 1) (by omega) (by omega), Tr.wrap_succ (by omega)]
    refine evpos (by omega) (evpos (by omega) (evpos (by omega) (evneg (by omega) (evpos (by omega) (evpos (by omega) ?_)))))
    rw [Tr.ups] at hR
    by_cases hc : x = p + 1
    · rw [if_pos hc] at hR
      refine evpos hc (evpos (by omega) ?_)
      have := ih (pre ++ [p]) (out ++ [x]) x (by rw [hL]; simp) (by simp; omega) (by simpa using hR)
      rw [show (pre ++ [p]).length = pre.length + 1 by simp] at this
      exact this
    · rw [if_neg hc] at hR
      refine evneg hc ?_
      have := ih (pre ++ [p]) out x (by rw [hL]; simp) (by simp; omega) hR
      rw [show (pre ++ [p]).length = pre.length + 1 by simp] at this
      exact this
theorem ev_TreeOfContour {d : List Int} {b : Tr.F} (h : Tr.Tree d (.cons b .nil)) : Ev (fun k => impl_TreeOfContour.f k (0 :: b.cr 0)) (d, 0) := by
  have hf := h.few
  have hcl := Tr.F.cr_len b 0
  simp only [Tr.F.size] at hf
  have hB : ∀ y ∈ (0 :: b.cr 0), (0 : Int) ≤ y ∧ y ≤ 1000 := fun y hy => by
    rcases List.mem_cons.mp hy with hy | hy
    · omega
    · have := Tr.F.cr_in b 0 y hy; omega
  have hl : (0 :: b.cr 0).length = 2 * b.size + 1 := by simp [hcl]
  have hend : Ev (fun k => impl_TreeOfContour.l0 k (0 :: b.cr 0) ((Tr.F.cons b .nil).depths 0) (0 :: b.cr 0) ((0 :: b.cr 0).length : Int) ((0 :: b.cr 0).length : Int)) (d, 0) := by
    refine Ev_succ ?_
    simp only [impl_TreeOfContour.l0]
    refine evneg (by omega) (Ev.bind (ev_treeOfDepths h) (evpos rfl (Ev.bind (ev_contour h) (Ev.bind (ev_slEq _ (by rw [hl]; omega)) (evpos rfl (Ev.now _))))))
  have hst := ev_TreeOfContour_l0 (0 :: b.cr 0) (by rw [hl]; omega) hB (d, 0) (b.cr 0) [] [0] 0 rfl (by simp) (by
    have e : [0] ++ Tr.ups 0 (b.cr 0) = (Tr.F.cons b .nil).depths 0 := by
      have := Tr.ups_cr b 0 []
      rw [List.append_nil] at this
      rw [this]; simp [Tr.F.depths, Tr.ups]
    rw [e]; exact hend)
  unfold impl_TreeOfContour.f
  refine evneg (by rw [hl]; omega) (Ev_succ ?_)
  simp only [impl_TreeOfContour.l0]
  rw [Tr.rd_cons0, show wrap64 (0 + 1) = 1 by unfold wrap64; omega]
  refine evpos (by rw [hl]; omega) (evpos (by omega) (evpos (by rw [hl]; omega) (evpos (by first | rfl | trivial) (evpos (by simp) ?_))))
  exact hst
theorem ev_impl_CountGrowing {d : List Int} {t : Tr.F} (h : Tr.Tree d t) (hs : t.size ≤ 20) : Ev (fun k => impl_CountGrowing.f k d) (((Tr.fact t.size / t.prod : Nat) : Int), 0) := by
  have hle := h.le
  have hlen := h.len
  have hbs : (List.range t.size).map (fun v => 1 + (t.sub v).size) = t.szs := by
    apply List.ext_getElem
    · simp [Tr.F.szs_len]
    · intro i h1 h2
      have h3 : i < t.size := by simpa using h1
      have := Tr.F.szs_get t i h3
      rw [List.getD_eq_getElem?_getD, List.getElem?_eq_getElem h2] at this
      simp at this ⊢
      exact this.symm
  have hd : Tr.lprod t.szs ∣ Tr.fact t.szs.length := by rw [Tr.F.szs_len, Tr.F.szs_prod]; exact Tr.F.prod_dvd t
  unfold impl_CountGrowing.f impl_grownCode.f
  refine Ev.bind (a := 0) (Ev.bind (ev_IsTree d) (evpos h.isT (evneg (by omega) (Ev.now _)))) (evpos rfl (Ev.bind (ev_sizesOf h) (Ev.bind (ev_preorder d (by omega)) ?_)))
  have hw := ev_ways (Tr.sizesL t) (fun v => 1 + (t.sub v).size) (List.range t.size) (by simpa using hs) (fun v hv => by
    have hv' : v < t.size := by simpa using hv
    exact ⟨by rw [Tr.sizesL, Tr.each_len]; exact hv', Tr.each_rd hv', by omega⟩) (by rw [hbs]; simpa [Tr.F.szs_len] using hd)
  rw [hbs] at hw
  have e : Tr.upto d.length = (List.range t.size).map (fun v : Nat => (v : Int)) := by rw [hlen]; rfl
  rw [e]
  simp only [List.length_range, Tr.F.szs_prod] at hw
  exact Ev.bind hw (Ev.now _)
theorem ev_impl_EditDistance {d e : List Int} {t u : Tr.F} (h : Tr.Tree d t) (g : Tr.Tree e u) : Ev (fun k => impl_EditDistance.f k d e) (wrap64 (wrap64 ((d.length : Int) + (e.length : Int)) - wrap64 (2 * ((Tr.F.pc t.mir u.mir : Nat) : Int))), 0) := by
  unfold impl_EditDistance.f
  exact Ev.bind (ev_areTwo d e) (evpos (by simp [h.isT, g.isT]) (Ev.bind (by unfold impl_editDistance.f; exact Ev.bind (ev_inCommon h g) (Ev.now _)) (Ev.now _)))
theorem ev_impl_IsGrowing {d l : List Int} {t : Tr.F} (h : Tr.Tree d t) (hl : l.length ≤ 100000000) (ho : Tr.isOrd d.length l) (hg : Tr.growing t l = true) : Ev (fun k => impl_IsGrowing.f k d l) (true, 0) := by
  unfold impl_IsGrowing.f
  refine Ev.bind (ev_orderCode d l hl) ?_
  unfold Tr.codeO
  rw [if_pos h.isT, if_pos ho]
  have := ev_isGrowing h ho
  rw [hg] at this
  exact evpos rfl (Ev.bind this (Ev.now _))
theorem evat2 {α β : Type} {g : Option α} {a : α} {f : Nat → α → Option β} {r : β} (e : g = some a) (h : Ev (fun n => f n a) r) : Ev (fun n => g.bind (f n)) r := by subst e; exact h
theorem dice_ok {C : List Int} (hC : Dr.Cod C) {a h : Int} (ha : 0 ≤ a ∧ a ≤ (C.length : Int)) {n : Int} (hn : 1 ≤ n) : ∃ r a' h', laws_dice_below.f C a h n = some (r, a', h') ∧ 0 ≤ r ∧ r < n ∧ (0 ≤ a' ∧ a' ≤ (C.length : Int)) := by
  have hl := hC.1
  have hr := Dr.cod_rd hC a
  have hh := Dr.hash_in (IntKind.u64.wrap (h * 6364136223846793005) + 1442695040888963407)
  unfold laws_dice_below.f
  generalize Go.bits .and .u64 (IntKind.u64.wrap (IntKind.u64.wrap (h * 6364136223846793005) + 1442695040888963407) / 8589934592) 16777215 = X at hh ⊢
  have eX : wrap64 X = X := Tr.wrap_id (by omega) (by omega)
  rw [eX, if_neg (by omega)]
  by_cases h2 : a < (C.length : Int)
  · rw [if_pos h2, if_pos ha.1, if_neg (by omega)]
    have e1 : wrap64 (rd C a) = rd C a := Tr.wrap_id (by omega) (by omega)
    have e2 : wrap64 (a + 1) = a + 1 := Tr.wrap_id (by omega) (by omega)
    rw [e1, e2]
    clear e1 e2 eX
    rw [Tr.wrap_id (x := X + rd C a) (by omega) (by omega)]
    have ht := Dr.tmod_in (a := X + rd C a) (b := n) (by omega) (by omega)
    exact ⟨_, _, _, rfl, ht.1, ht.2, by omega, by omega⟩
  · rw [if_neg h2, if_neg (by omega)]
    have ht := Dr.tmod_in (a := X) (b := n) (by omega) (by omega)
    exact ⟨_, _, _, rfl, ht.1, ht.2, ha⟩
theorem ev_roll_l0 {C : List Int} (hl : C.length ≤ 1000000) : ∀ (m i : Nat) (h : Int), i + m = C.length → ∃ h', Ev (fun k => laws_roll.l0 k C (i : Int) C 0 h) (C, 0, h') := by
  intro m
  induction m with
  | zero =>
    intro i h hi
    refine ⟨h, Ev_succ ?_⟩
    simp only [laws_roll.l0]
    exact evneg (by omega) (Ev.now _)
  | succ m ih =>
    intro i h hi
    obtain ⟨h', h2⟩ := ih (i + 1) (IntKind.u64.wrap ((IntKind.u64.wrap ((IntKind.u64.wrap (h * 1099511628211)) + (IntKind.u64.wrap (rd C (i : Int))))) + 5)) (by omega)
    refine ⟨h', Ev_succ ?_⟩
    simp only [laws_roll.l0]
    rw [Tr.wrap_succ (by omega)]
    exact evpos (by omega) (evpos (by omega) h2)
theorem ev_roll {C : List Int} (hl : C.length ≤ 1000000) (a : Int) : ∃ h', Ev (fun k => laws_roll.f k C a) (C, 0, h') := by
  unfold laws_roll.f
  exact ev_roll_l0 hl C.length 0 _ (by omega)
theorem ev_FnTop_end {q : List Int} (hq : Gt.Grows q) (hn : q.length ≤ 9) (C : List Int) (a h : Int) : Ev (fun k => laws_FnTop.l0 k ((q.length : Int) + 1) q ((q.length : Int) + 1) C a h) true := by
  obtain ⟨t, hT, hs, ho, hg⟩ := Lg.grown hq (by omega)
  have hG := ev_impl_GrownTree q (by omega) hq
  have hlo : (Gt.place 0 (Gt.wl q (q.length + 1) 0) (List.replicate (q.length + 1) 0)).length = q.length + 1 := by rw [ho.1, hs]
  generalize Gt.place 0 (Gt.wl q (q.length + 1) 0) (List.replicate (q.length + 1) 0) = o at ho hg hG hlo
  generalize Gt.wd q (q.length + 1) 0 = d at hT hG
  obtain ⟨b, rfl⟩ := hT.one
  have hlen := hT.len
  have hs' : b.size + 1 = q.length + 1 := by simp only [Tr.F.size] at hs; omega
  have hM := hT.mir
  have hML := hM.len
  rw [Tr.F.mir_size] at hML
  refine Ev_succ ?_
  simp only [laws_FnTop.l0]
  refine evneg (by omega) (Ev.bind hG (Ev.bind (ev_TreeText hT) (Ev.bind (ev_ParseTree hT) (Ev.bind (ev_ContourOf hT) (Ev.bind (ev_TreeOfContour hT) (Ev.bind (ev_BinaryOf hT) (Ev.bind (ev_TreeOfBinary hT) (Ev.bind (ev_MirrorOf hT) ?_))))))))
  have e1 : wrap64 (wrap64 (2 * ((q.length : Int) + 1)) - 1) = 2 * (q.length : Int) + 1 := by
    rw [Tr.wrap_id (x := 2 * ((q.length : Int) + 1)) (by omega) (by omega), Tr.wrap_id (by omega) (by omega)]; omega
  rw [e1]
  have hL := ev_likeInts d (by omega)
  refine evpos rfl (evpos rfl (evpos rfl (evpos rfl (evpos rfl (evpos rfl (evpos rfl (evpos rfl (evpos ?_ (evpos ?_ (evpos ?_ (Ev.bind hL (evpos rfl (Ev.bind hL (evpos rfl (Ev.bind hL ?_)))))))))))))))
  · show (o.length : Int) = (q.length : Int) + 1
    omega
  · rw [List.length_cons, Tr.F.cr_len]; omega
  · rw [Tr.B_size, Tr.tx_length]; omega
  refine Ev_succ ?_
  simp only [laws_FnTop.j1]
  refine evneg (by simp) (Ev.bind (ev_impl_CountGrowing hT (by omega)) (Ev.bind (ev_impl_CountGrowing hM (by rw [Tr.F.mir_size]; omega)) (Ev.bind (ev_impl_EditDistance hT hM) (Ev.bind (ev_impl_EditDistance hM hT) (Ev.bind (ev_impl_IsGrowing hT (by omega) (by rw [hlen]; exact ho) hg) ?_)))))
  refine evpos rfl (evpos rfl (evpos rfl (evpos rfl (evpos rfl (evpos ?_ (evpos ?_ (Ev.now _)))))))
  · show ((Tr.fact _ / _ : Nat) : Int) = ((Tr.fact _ / _ : Nat) : Int)
    rw [Tr.F.mir_size, Tr.F.mir_prod]
  · show wrap64 (_ - _) = wrap64 (_ - _)
    rw [Int.add_comm, Tr.F.pc_comm _ _ _ (Nat.le_refl _)]
theorem ev_FnTop_l0 {C : List Int} (hC : Dr.Cod C) {n : Nat} (hn : n ≤ 10) : ∀ (m : Nat) (q : List Int) (a h : Int), q.length + 1 + m = n → Gt.Grows q → (0 ≤ a ∧ a ≤ (C.length : Int)) → Ev (fun k => laws_FnTop.l0 k (n : Int) q ((q.length : Int) + 1) C a h) true := by
  intro m
  induction m with
  | zero =>
    intro q a h hm hq ha
    have := ev_FnTop_end hq (by omega) C a h
    rw [show (n : Int) = (q.length : Int) + 1 by omega]
    exact this
  | succ m ih =>
    intro q a h hm hq ha
    obtain ⟨r, a', h', e1, r0, r1, h2⟩ := dice_ok hC (h := h) ha (n := (q.length : Int) + 1) (by omega)
    refine Ev_succ ?_
    simp only [laws_FnTop.l0]
    refine evpos (by omega) (evat2 e1 (evpos (by omega) ?_))
    have := ih (q ++ [r]) a' h' (by simp; omega) (fun j x hj => by
      by_cases hjl : j < q.length
      · rw [List.getElem?_append_left hjl] at hj; exact hq j x hj
      · rw [List.getElem?_append_right (by omega)] at hj
        have hj0 : j - q.length = 0 := by
          cases hk : j - q.length with
          | zero => rfl
          | succ z => rw [hk] at hj; simp at hj
        rw [hj0] at hj
        simp at hj
        subst hj
        omega) h2
    rw [Tr.wrap_id (x := (q.length : Int) + 1 + 1) (by omega) (by omega)]
    rw [List.length_append, List.length_singleton] at this
    simpa using this
theorem pure_FnTop (C : List Int) (hl : C.length ≤ maxLen) (hw : ∀ x ∈ C, (Lit.int .u8 x).wf = true) : ∃ k, laws_FnTop.f k C = some true := by
  refine Ev.rounds ?_
  unfold laws_FnTop.f laws_big.f
  by_cases hb : (C.length : Int) > 4096
  · exact evsome (evpos (by simpa using hb) (Ev.now _))
  · have hC : Dr.Cod C := ⟨by omega, fun x hx => by
      have := hw x hx
      have h3 : IntKind.u8.min ≤ x ∧ x ≤ IntKind.u8.max := by simpa [Lit.wf] using this
      exact h3⟩
    obtain ⟨h', hR⟩ := ev_roll (C := C) (by omega) 91
    obtain ⟨r, a', h2, e1, r0, r1, s1⟩ := dice_ok hC (h := h') (a := 0) ⟨by omega, by omega⟩ (n := 10) (by omega)
    refine evsome (evneg (by simpa using hb) (Ev.bind hR (evat2 e1 ?_)))
    obtain ⟨m, hm⟩ := Int.eq_ofNat_of_zero_le r0
    dsimp only
    rw [show wrap64 (1 + r) = ((m + 1 : Nat) : Int) by rw [Tr.wrap_id (by omega) (by omega)]; omega]
    exact ev_FnTop_l0 hC (n := m + 1) (by omega) m [] a' h2 (by simp; omega) (fun j x hj => by simp at hj) s1
end Go.Proofs.Ytlppkilencpmeaa.QFnTop
