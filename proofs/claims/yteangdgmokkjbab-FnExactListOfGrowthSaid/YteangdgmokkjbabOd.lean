/- Orders of a tree's nodes: the numbers 0..n-1, each once. Plain mathematics, no program in sight. -/
import Derived.Test.YteangdgmokkjbabIx
namespace Go.Proofs.Yteangdgmokkjbab.Tr
open Go.RowKit Go.Proofs.YteangdgmokkjbabW.PrintWords
set_option linter.unusedSimpArgs false
set_option linter.unusedVariables false

def isOrd (n : Nat) (l : List Int) : Prop := l.length = n ∧ l.Nodup ∧ ∀ x ∈ l, 0 ≤ x ∧ x < n
instance (n : Nat) (l : List Int) : Decidable (isOrd n l) := by unfold isOrd; infer_instance
def msort (l : List Int) : List Int := l.mergeSort fun x y => decide (x ≤ y)
theorem msort_len (l : List Int) : (msort l).length = l.length := List.length_mergeSort _
theorem msort_perm (l : List Int) : (msort l).Perm l := List.mergeSort_perm _ _
theorem msort_sorted (l : List Int) : (msort l).Pairwise (fun x y => x ≤ y) := by
  have := List.pairwise_mergeSort (le := fun x y : Int => decide (x ≤ y)) (by intro a b c; simp; omega) (by intro a b; simp; omega) l
  exact this.imp (by intro a b h; simpa using h)
/-- Whole numbers in strict order, as many as there is room for. -/
theorem strict_full : ∀ (s : List Int) (a : Nat), s.Pairwise (fun x y => x < y) → (∀ x ∈ s, (a : Int) ≤ x ∧ x < ((a + s.length : Nat) : Int)) → s = (List.range' a s.length).map (fun v : Nat => (v : Int)) := by
  intro s
  induction s with
  | nil => intro a _ _; rfl
  | cons x s ih =>
    intro a hp hr
    rw [List.pairwise_cons] at hp
    have h1 := ih (a + 1) hp.2 (by
      intro y hy
      have q := hp.1 y hy
      have q1 := hr x (by simp)
      have q2 := hr y (by simp [hy])
      simp only [List.length_cons] at q2
      omega)
    have hx : x = (a : Int) := by
      have q1 := hr x (by simp)
      simp only [List.length_cons] at q1
      cases s with
      | nil => simp only [List.length_nil] at q1; omega
      | cons y s' =>
        have : ((a + 1 : Nat) : Int) ∈ y :: s' := by rw [h1]; simp [List.range'_succ]
        have := hp.1 _ this
        omega
    simp only [List.length_cons, List.range'_succ, List.map_cons]
    rw [← h1, hx]
theorem upto_range (n : Nat) : upto n = (List.range' 0 n).map (fun v : Nat => (v : Int)) := by
  unfold upto each; rw [List.range_eq_range']
theorem upto_nodup (n : Nat) : (upto n).Nodup := by
  rw [upto_range]
  refine List.Pairwise.map _ ?_ (List.nodup_range' (s := 0) (n := n))
  intro a b h; omega
theorem isOrd_sort {n : Nat} {l : List Int} : isOrd n l ↔ l.length = n ∧ msort l = upto n := by
  constructor
  · rintro ⟨h1, h2, h3⟩
    refine ⟨h1, ?_⟩
    have hn : (msort l).Nodup := (msort_perm l).nodup_iff.mpr h2
    have hp : (msort l).Pairwise (fun x y => x < y) := by
      have := List.Pairwise.and (msort_sorted l) hn
      exact this.imp (by intro a b h; omega)
    have := strict_full (msort l) 0 hp (by
      intro x hx
      have := h3 x ((msort_perm l).mem_iff.mp hx)
      rw [msort_len, h1]; omega)
    rw [this, msort_len, h1, upto_range]
  · rintro ⟨h1, h2⟩
    refine ⟨h1, ?_, ?_⟩
    · rw [← (msort_perm l).nodup_iff, h2]; exact upto_nodup n
    · intro x hx
      rw [← (msort_perm l).mem_iff, h2, upto_mem] at hx
      exact hx
theorem isOrd_mem {n : Nat} {l : List Int} (h : isOrd n l) {v : Int} : v ∈ l ↔ 0 ≤ v ∧ v < n := by
  rw [← (msort_perm l).mem_iff, (isOrd_sort.mp h).2, upto_mem]
theorem upto_rd {n i : Nat} (h : i < n) : rd (upto n) (i : Int) = i := each_rd h
/-- The place of x in a list made of two. -/
theorem idx_left (x : Int) : ∀ (a b : List Int) (i : Nat), x ∈ a → idx x (a ++ b) i = idx x a i := by
  intro a
  induction a with
  | nil => intro b i h; simp at h
  | cons y a ih =>
    intro b i h
    simp only [List.cons_append, idx]
    split
    · rfl
    · rename_i hne
      exact ih b (i + 1) (by simpa [hne] using h)
theorem idx_right (x : Int) : ∀ (a b : List Int) (i : Nat), x ∉ a → idx x (a ++ b) i = idx x b (i + a.length) := by
  intro a
  induction a with
  | nil => intro b i h; simp
  | cons y a ih =>
    intro b i h
    simp only [List.mem_cons, not_or] at h
    simp only [List.cons_append, idx, if_neg h.1, List.length_cons]
    rw [ih b (i + 1) h.2]
    congr 1; omega
theorem idx_at {x : Int} {a b : List Int} (h : x ∉ a) : idx x (a ++ x :: b) 0 = a.length := by
  rw [idx_right x a (x :: b) 0 h]; simp [idx]
/-- Every node comes behind its parent. -/
def grows (t : F) : List Int → List Int → Bool
  | _, [] => true
  | pre, x :: r => (decide (t.par 0 (-1) x.toNat < 0) || decide (t.par 0 (-1) x.toNat ∈ pre)) && grows t (pre ++ [x]) r
theorem grows_iff (t : F) : ∀ (r pre : List Int), grows t pre r = true ↔ ∀ a x b, r = a ++ x :: b → t.par 0 (-1) x.toNat < 0 ∨ t.par 0 (-1) x.toNat ∈ pre ++ a := by
  intro r
  induction r with
  | nil => intro pre; simp [grows]
  | cons y r ih =>
    intro pre
    simp only [grows, Bool.and_eq_true, Bool.or_eq_true, decide_eq_true_eq, ih]
    constructor
    · rintro ⟨h1, h2⟩ a x b hab
      cases a with
      | nil =>
        simp only [List.nil_append, List.cons.injEq] at hab
        obtain ⟨rfl, rfl⟩ := hab
        simpa using h1
      | cons z a =>
        simp only [List.cons_append, List.cons.injEq] at hab
        obtain ⟨rfl, rfl⟩ := hab
        have := h2 a x b rfl
        simpa [List.append_assoc] using this
    · intro h
      refine ⟨by simpa using h [] y r rfl, ?_⟩
      intro a x b hab
      have := h (y :: a) x b (by rw [hab]; rfl)
      simpa [List.append_assoc] using this
/-- The same, told by the places of the nodes. -/
theorem grows_pos {d : List Int} {t : F} (h : Tree d t) {l : List Int} (ho : isOrd t.size l) : grows t [] l = true ↔ ∀ v : Nat, 1 ≤ v → v < t.size → idx (t.par 0 (-1) v) l 0 ≤ idx (v : Int) l 0 := by
  rw [grows_iff]
  constructor
  · intro hg v h1 h2
    have hm : (v : Int) ∈ l := (isOrd_mem ho).mpr (by omega)
    obtain ⟨a, b, rfl, hna⟩ := List.eq_append_cons_of_mem hm
    rw [idx_at hna]
    have hp := h.par_pos h1 h2
    rcases hg a v b rfl with q | q
    · simp only [Int.toNat_natCast] at q; omega
    · simp only [Int.toNat_natCast, List.nil_append] at q
      rw [idx_left _ _ _ _ q]
      have := idx_range (t.par 0 (-1) v) a 0
      omega
  · intro hp a x b hab
    subst hab
    have hx := (isOrd_mem ho (v := x)).mp (by simp)
    have hnd : x ∉ a := by
      have := ho.2.1
      rw [List.nodup_append] at this
      intro hxa
      exact this.2.2 x hxa x (by simp) rfl
    obtain ⟨v, rfl⟩ := Int.eq_ofNat_of_zero_le hx.1
    have hv : v < t.size := by omega
    simp only [Int.toNat_natCast, List.nil_append]
    by_cases h0 : v = 0
    · subst h0; left; have := h.par_zero; omega
    · have hq := hp v (by omega) hv
      have hpar := h.par_pos (by omega : 1 ≤ v) hv
      by_cases hin : t.par 0 (-1) v ∈ a
      · exact .inr hin
      · exfalso
        have hmem : t.par 0 (-1) v ∈ a ++ (v : Int) :: b := (isOrd_mem ho).mpr (by omega)
        have hge := (idx_mem (t.par 0 (-1) v) (a ++ (v : Int) :: b) 0).mpr hmem
        rw [idx_right _ _ _ _ hin] at hq hge
        rw [idx_at hnd] at hq
        simp only [idx] at hq hge
        rw [if_neg (by omega)] at hq hge
        have := idx_range (t.par 0 (-1) v) b (0 + a.length + 1)
        omega
/-- The labels: each node's place. -/
def labels (l : List Int) (n : Nat) : List Int := each n (fun v => idx (v : Int) l 0)
/-- The answer to an order: 0, 1 (no tree), 2 (no order). -/
def codeO (d l : List Int) : Int := if isT d = true then (if isOrd d.length l then 0 else 2) else 1
def growing (t : F) (l : List Int) : Bool := grows t [] l
def codeG (d l : List Int) (t : F) : Int := if isOrd d.length l then (if growing t l = true then 0 else 5) else 2
theorem codeG_zero {d l : List Int} {t : F} : codeG d l t = 0 ↔ isOrd d.length l ∧ growing t l = true := by
  unfold codeG
  by_cases h : isOrd d.length l
  · rw [if_pos h]
    cases growing t l with
    | true => simp [h]
    | false => simp
  · rw [if_neg h]; simp [h]
/-- The places where a list falls. -/
def breaks (l : List Int) : Nat → Nat → List Int
  | 0, _ => []
  | m + 1, i => if rd l (i : Int) > rd l ((i + 1 : Nat) : Int) then (i : Int) :: breaks l m (i + 1) else breaks l m (i + 1)
theorem breaks_len (l : List Int) : ∀ m i, (breaks l m i).length ≤ m := by
  intro m
  induction m with
  | zero => intro i; simp [breaks]
  | succ m ih =>
    intro i
    have := ih (i + 1)
    unfold breaks
    split
    · simp only [List.length_cons]; omega
    · omega
/-- The places where two neighbours may change places. -/
def frees (p l : List Int) : Nat → Nat → List Int
  | 0, _ => []
  | m + 1, i => if rd p (rd l ((i + 1 : Nat) : Int)) = rd l (i : Int) then frees p l m (i + 1) else (i : Int) :: frees p l m (i + 1)
theorem frees_len (p l : List Int) : ∀ m i, (frees p l m i).length ≤ m := by
  intro m
  induction m with
  | zero => intro i; simp [frees]
  | succ m ih =>
    intro i
    have := ih (i + 1)
    unfold frees
    split
    · omega
    · simp only [List.length_cons]; omega
theorem isOrd_rd {n : Nat} {l : List Int} (h : isOrd n l) {i : Nat} (hi : i < n) : 0 ≤ rd l (i : Int) ∧ rd l (i : Int) < n :=
  h.2.2 _ (rd_mem (by omega) (by have := h.1; omega))
end Go.Proofs.Yteangdgmokkjbab.Tr
