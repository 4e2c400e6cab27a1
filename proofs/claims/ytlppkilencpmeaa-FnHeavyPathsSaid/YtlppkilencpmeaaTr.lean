/- Plane trees as forests: their encoding by degrees in preorder, where a part stands, parents, depths, sizes. Plain mathematics, no program in sight. -/
import Derived.Test.YtlppkilencpmeaaWWords
namespace Go.Proofs.Ytlppkilencpmeaa.Tr
open Go.RowKit Go.Proofs.YtlppkilencpmeaaW.PrintWords
set_option linter.unusedSimpArgs false
set_option linter.unusedVariables false

/-- A list of trees: what is below the first root, and the trees behind it. -/
inductive F where
  | nil : F
  | cons : F → F → F
  deriving DecidableEq

namespace F
def size : F → Nat
  | nil => 0
  | cons b n => 1 + b.size + n.size
def len : F → Nat
  | nil => 0
  | cons _ n => 1 + n.len
def enc : F → List Int
  | nil => []
  | cons b n => (b.len : Int) :: (b.enc ++ n.enc)
def app : F → F → F
  | nil, g => g
  | cons b n, g => cons b (n.app g)
/-- The places of the roots, the first one at p. -/
def roots : F → Nat → List Int
  | nil, _ => []
  | cons b n, p => (p : Int) :: n.roots (p + 1 + b.size)
def parents : F → Nat → Int → List Int
  | nil, _, _ => []
  | cons b n, p, q => q :: (b.parents (p + 1) p ++ n.parents (p + 1 + b.size) q)
def depths : F → Int → List Int
  | nil, _ => []
  | cons b n, k => k :: (b.depths (k + 1) ++ n.depths k)
def sizes : F → List Int
  | nil => []
  | cons b n => (1 + b.size : Int) :: (b.sizes ++ n.sizes)

theorem enc_len (f : F) : f.enc.length = f.size := by
  induction f with
  | nil => rfl
  | cons b n hb hn => simp [enc, size, hb, hn]; omega
theorem roots_len (f : F) : ∀ p, (f.roots p).length = f.len := by
  induction f with
  | nil => intro p; rfl
  | cons b n hb hn => intro p; simp [roots, len, hn]; omega
theorem len_le (f : F) : f.len ≤ f.size := by
  induction f with
  | nil => exact Nat.le_refl _
  | cons b n hb hn => simp [len, size]; omega
theorem app_len (f g : F) : (f.app g).len = f.len + g.len := by
  induction f with
  | nil => simp [app, len]
  | cons b n _ hn => simp [app, len, hn]; omega
theorem app_enc (f g : F) : (f.app g).enc = f.enc ++ g.enc := by
  induction f with
  | nil => simp [app, enc]
  | cons b n _ hn => simp [app, enc, hn]
theorem len_zero {f : F} (h : f.len = 0) : f = nil := by
  cases f with
  | nil => rfl
  | cons b n => simp [len] at h
theorem split : ∀ (g : F) (i : Nat), i ≤ g.len → ∃ b n : F, g = b.app n ∧ b.len = i
  | g, 0, _ => ⟨nil, g, rfl, rfl⟩
  | nil, i + 1, h => by simp [len] at h
  | cons b n, i + 1, h => by
    obtain ⟨x, y, rfl, hx⟩ := split n i (by simp [len] at h; omega)
    exact ⟨cons b x, y, rfl, by simp only [len, hx]; omega⟩
/-- What is read once is read so always. -/
theorem enc_inj : ∀ (f g : F) (s t : List Int), f.len = g.len → f.enc ++ s = g.enc ++ t → f = g ∧ s = t := by
  intro f
  induction f with
  | nil =>
    intro g s t hl h
    obtain rfl := len_zero (f := g) (by simp [len] at hl; omega)
    exact ⟨rfl, by simpa [enc] using h⟩
  | cons b n hb hn =>
    intro g s t hl h
    cases g with
    | nil => simp [len] at hl
    | cons b' n' =>
      simp only [enc, List.cons_append, List.cons.injEq, List.append_assoc] at h
      obtain ⟨h1, h2⟩ := h
      obtain ⟨rfl, h3⟩ := hb b' _ _ (by omega) h2
      obtain ⟨rfl, rfl⟩ := hn n' _ _ (by simp [len] at hl; omega) h3
      exact ⟨rfl, rfl⟩
end F

/-! ### Where a part stands -/
def Pl (d : List Int) (p : Nat) (g : F) : Prop := ∃ pre post, d = pre ++ g.enc ++ post ∧ pre.length = p
theorem rd_app (pre s : List Int) (i : Nat) : rd (pre ++ s) ((pre.length + i : Nat) : Int) = rd s (i : Nat) := by
  unfold rd
  rw [Int.toNat_natCast, Int.toNat_natCast, List.getD_eq_getElem?_getD, List.getD_eq_getElem?_getD, List.getElem?_append_right (by omega)]
  congr 2
  omega
theorem rd_app0 (pre s : List Int) : rd (pre ++ s) (pre.length : Int) = rd s 0 := by
  have := rd_app pre s 0
  simpa using this
theorem rd_cons0 (x : Int) (s : List Int) : rd (x :: s) 0 = x := by simp [rd]
theorem rd_mem {l : List Int} {i : Int} (h0 : 0 ≤ i) (h : i < l.length) : rd l i ∈ l := by
  unfold rd
  rw [List.getD_eq_getElem?_getD, List.getElem?_eq_getElem (by omega)]
  exact List.getElem_mem _
theorem rd_getElem {l : List Int} {i : Nat} (h : i < l.length) : rd l (i : Int) = l[i] := by
  unfold rd
  rw [List.getD_eq_getElem?_getD, Int.toNat_natCast, List.getElem?_eq_getElem h]; rfl
namespace Pl
theorem le {d : List Int} {p : Nat} {g : F} (h : Pl d p g) : p + g.size ≤ d.length := by
  obtain ⟨pre, post, rfl, rfl⟩ := h
  simp only [List.length_append, F.enc_len]; omega
theorem whole (g : F) : Pl g.enc 0 g := ⟨[], [], by simp, rfl⟩
theorem deg {d : List Int} {p : Nat} {b n : F} (h : Pl d p (.cons b n)) : rd d (p : Int) = b.len := by
  obtain ⟨pre, post, rfl, rfl⟩ := h
  rw [List.append_assoc, rd_app0]
  simp [F.enc, rd]
theorem below {d : List Int} {p : Nat} {b n : F} (h : Pl d p (.cons b n)) : Pl d (p + 1) b := by
  obtain ⟨pre, post, rfl, rfl⟩ := h
  exact ⟨pre ++ [(b.len : Int)], n.enc ++ post, by simp [F.enc], by simp⟩
theorem next {d : List Int} {p : Nat} {b n : F} (h : Pl d p (.cons b n)) : Pl d (p + 1 + b.size) n := by
  obtain ⟨pre, post, rfl, rfl⟩ := h
  exact ⟨pre ++ (b.len : Int) :: b.enc, post, by simp [F.enc], by simp [F.enc_len]; omega⟩
theorem one {d : List Int} {p : Nat} {b n : F} (h : Pl d p (.cons b n)) : Pl d p (.cons b .nil) := by
  obtain ⟨pre, post, rfl, rfl⟩ := h
  exact ⟨pre, n.enc ++ post, by simp [F.enc], rfl⟩
theorem left {d : List Int} {p : Nat} {f g : F} (h : Pl d p (f.app g)) : Pl d p f := by
  obtain ⟨pre, post, rfl, rfl⟩ := h
  exact ⟨pre, g.enc ++ post, by simp [F.app_enc], rfl⟩
theorem right {d : List Int} {p : Nat} {f g : F} (h : Pl d p (f.app g)) : Pl d (p + f.size) g := by
  obtain ⟨pre, post, rfl, rfl⟩ := h
  exact ⟨pre ++ f.enc, post, by simp [F.app_enc], by simp [F.enc_len]⟩
/-- Each place within is that of a node. -/
theorem at_ : ∀ {g : F} {d : List Int} {p : Nat} (_ : Pl d p g) (v : Nat), p ≤ v → v < p + g.size → ∃ b n, Pl d v (.cons b n) ∧ v + 1 + b.size ≤ p + g.size := by
  intro g
  induction g with
  | nil => intro d p h v h1 h2; simp [F.size] at h2; omega
  | cons b n hb hn =>
    intro d p h v h1 h2
    simp only [F.size] at h2
    by_cases e : v = p
    · subst e; exact ⟨b, n, h, by simp [F.size]; omega⟩
    · by_cases h3 : v < p + 1 + b.size
      · obtain ⟨x, y, hp, hx⟩ := hb h.below v (by omega) h3
        exact ⟨x, y, hp, by simp [F.size]; omega⟩
      · obtain ⟨x, y, hp, hx⟩ := hn h.next v (by omega) (by omega)
        exact ⟨x, y, hp, by simp [F.size]; omega⟩
theorem uniq {d : List Int} {p : Nat} {f g : F} (h : Pl d p f) (k : Pl d p g) (hl : f.len = g.len) : f = g := by
  obtain ⟨pre, post, rfl, rfl⟩ := h
  obtain ⟨pre', post', e, hp⟩ := k
  rw [List.append_assoc, List.append_assoc] at e
  have := List.append_inj e hp.symm
  exact (F.enc_inj f g _ _ hl this.2).1
theorem uniq1 {d : List Int} {p : Nat} {b n b' n' : F} (h : Pl d p (.cons b n)) (k : Pl d p (.cons b' n')) : b = b' := by
  have e := h.deg.symm.trans k.deg
  exact uniq h.below k.below (by omega)
end Pl

/-! ### What is a tree -/
def ok : List Int → Int → Bool
  | [], m => m == 0
  | x :: xs, m => m != 0 && (decide (0 ≤ x) && (decide (x < 24) && ok xs (m - 1 + x)))
def isT (d : List Int) : Bool := decide (1 ≤ d.length) && (decide (d.length ≤ 24) && ok d 1)
theorem ok_enc : ∀ (l : List Int) (m : Int), 0 ≤ m → ok l m = true → ∃ g : F, l = g.enc ∧ (g.len : Int) = m := by
  intro l
  induction l with
  | nil => intro m _ h; exact ⟨.nil, rfl, by simp [ok] at h; simp [F.len, h]⟩
  | cons x xs ih =>
    intro m hm h
    simp only [ok, Bool.and_eq_true, bne_iff_ne, decide_eq_true_eq] at h
    obtain ⟨h0, h1, h2, h3⟩ := h
    obtain ⟨g, rfl, hg⟩ := ih (m - 1 + x) (by omega) h3
    obtain ⟨b, n, rfl, hb⟩ := F.split g x.toNat (by omega)
    refine ⟨.cons b n, ?_, ?_⟩
    · simp only [F.enc, F.app_enc, List.cons.injEq, and_true]; omega
    · rw [F.app_len] at hg; simp only [F.len]; omega
theorem enc_ok : ∀ (g : F) (s : List Int) (j : Nat), g.size < 24 → ok (g.enc ++ s) (g.len + j) = ok s j := by
  intro g
  induction g with
  | nil => intro s j _; simp [F.enc, F.len]
  | cons b n hb hn =>
    intro s j hs
    simp only [F.size] at hs
    have h1 := hb (n.enc ++ s) (n.len + j) (by omega)
    have h2 := hn s j (by omega)
    have hl := F.len_le b
    have e : ((1 + n.len : Nat) : Int) + (j : Int) - 1 + (b.len : Int) = (b.len : Int) + ((n.len + j : Nat) : Int) := by omega
    have e2 : ((n.len + j : Nat) : Int) = (n.len : Int) + (j : Int) := by omega
    have hne : ((1 + n.len : Nat) : Int) + (j : Int) ≠ 0 := by omega
    simp only [F.enc, F.len, List.cons_append, ok, List.append_assoc, e, h1]
    rw [e2, h2]
    have hb0 : (0 : Int) ≤ (b.len : Int) := by omega
    have hb1 : (b.len : Int) < 24 := by omega
    rw [bne_iff_ne.mpr hne, decide_eq_true hb0, decide_eq_true hb1]
    rfl
theorem isT_iff (d : List Int) : isT d = true ↔ ∃ b : F, d = (F.cons b .nil).enc ∧ 1 + b.size ≤ 24 := by
  constructor
  · intro h
    simp only [isT, Bool.and_eq_true, decide_eq_true_eq] at h
    obtain ⟨h0, h1, h2⟩ := h
    obtain ⟨g, rfl, hg⟩ := ok_enc d 1 (by omega) h2
    cases g with
    | nil => simp [F.len] at hg
    | cons b n =>
      obtain rfl := F.len_zero (f := n) (by simp [F.len] at hg; omega)
      refine ⟨b, rfl, ?_⟩
      simp [F.enc_len, F.size] at h1
      omega
  · rintro ⟨b, rfl, hb⟩
    simp only [isT, Bool.and_eq_true, decide_eq_true_eq, F.enc_len, F.size]
    refine ⟨by omega, by omega, ?_⟩
    have h1 := enc_ok b [] 0 (by omega)
    have hl := F.len_le b
    have e : (1 : Int) - 1 + (b.len : Int) = (b.len : Int) + ((0 : Nat) : Int) := by omega
    simp only [F.enc, ok, List.append_nil] at h1 ⊢
    rw [e, h1]
    have hb1 : (b.len : Int) < 24 := by omega
    simp [hb1]

/-- The reference takes 24 for a number of children, too: that changes nothing. -/
def ok25 : List Int → Int → Bool
  | [], m => m == 0
  | x :: xs, m => m != 0 && (decide (0 ≤ x ∧ x ≤ 24) && ok25 xs (m - 1 + x))
theorem ok25_short : ∀ (l : List Int) (m : Int), l.length < m → ok25 l m = false := by
  intro l
  induction l with
  | nil => intro m h; simp [ok25] at h ⊢; omega
  | cons x l ih =>
    intro m h
    by_cases hx : 0 ≤ x ∧ x ≤ 24
    · simp only [ok25, ih (m - 1 + x) (by simp only [List.length_cons] at h; omega), Bool.and_false]
    · simp only [ok25, decide_eq_false hx, Bool.false_and, Bool.and_false]
theorem ok25_eq : ∀ (l : List Int) (m : Int), 0 ≤ m → l.length ≤ 24 → ok25 l m = ok l m := by
  intro l
  induction l with
  | nil => intro m _ _; rfl
  | cons x l ih =>
    intro m hm hl
    simp only [List.length_cons] at hl
    by_cases h0 : m = 0
    · simp [ok25, ok, h0]
    by_cases hx : 0 ≤ x
    · by_cases hy : x < 24
      · simp only [ok25, ok, ih (m - 1 + x) (by omega) (by omega), decide_eq_true hx, decide_eq_true hy, decide_eq_true (⟨hx, by omega⟩ : 0 ≤ x ∧ x ≤ 24), Bool.true_and]
      · simp only [ok25, ok, decide_eq_false hy, Bool.false_and, Bool.and_false]
        by_cases hz : x = 24
        · simp only [ok25_short l (m - 1 + x) (by omega), Bool.and_false]
        · simp only [decide_eq_false (by omega : ¬ (0 ≤ x ∧ x ≤ 24)), Bool.false_and, Bool.and_false]
    · simp only [ok25, ok, decide_eq_false hx, decide_eq_false (fun h => hx h.1 : ¬ (0 ≤ x ∧ x ≤ 24)), Bool.false_and, Bool.and_false]
theorem isT_eq25 (d : List Int) (h0 : 1 ≤ d.length) (h1 : d.length ≤ 24) : isT d = ok25 d 1 := by
  rw [ok25_eq d 1 (by omega) h1]
  simp only [isT, decide_eq_true h0, decide_eq_true h1, Bool.true_and]

theorem wrap_id {x : Int} (h0 : -9223372036854775808 ≤ x) (h1 : x < 9223372036854775808) : wrap64 x = x := by
  unfold wrap64; omega

/-- The code of nodes, and of a tree and nodes. -/
def nodesCode (n : Int) : List Int → Int
  | [] => 0
  | v :: r => if 0 ≤ v ∧ v < n then nodesCode n r else 2
def codeT (d : List Int) (l : List Int) : Int := if isT d = true then nodesCode d.length l else 1
theorem codeT_one {d : List Int} {v : Int} (h : codeT d [v] = 0) : isT d = true ∧ 0 ≤ v ∧ v < d.length := by
  unfold codeT at h
  split at h
  · refine ⟨by assumption, ?_⟩
    unfold nodesCode at h
    split at h
    · assumption
    · omega
  · omega
theorem isT_at {d : List Int} (h : isT d = true) : ∃ b : F, d = (F.cons b .nil).enc ∧ 1 + b.size ≤ 24 ∧ d.length = 1 + b.size ∧ Pl d 0 (.cons b .nil) := by
  obtain ⟨b, rfl, hb⟩ := (isT_iff d).1 h
  exact ⟨b, rfl, hb, by rw [F.enc_len]; simp [F.size], Pl.whole _⟩

theorem wrap_succ {i : Nat} (h : i ≤ 1000000000000) : wrap64 ((i : Int) + 1) = ((i + 1 : Nat) : Int) := by
  rw [wrap_id (by omega) (by omega)]; omega

end Go.Proofs.Ytlppkilencpmeaa.Tr
