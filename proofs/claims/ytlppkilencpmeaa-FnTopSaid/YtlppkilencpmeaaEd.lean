/- The most pairs of nodes in common of two lists of trees (read from the back), how they are told by lists of roots and by places in postorder, and how many stores a memory of them takes. Plain mathematics. -/
import Derived.Test.YtlppkilencpmeaaNd
namespace Go.Proofs.Ytlppkilencpmeaa.Tr
open Go.RowKit Go.Proofs.YtlppkilencpmeaaW.PrintWords
set_option linter.unusedSimpArgs false
set_option linter.unusedVariables false
namespace F
/-- The most pairs in common; a list of trees is read from its back: 'cons b n' is the last tree with b below its root, behind n. -/
def pc : F → F → Nat
  | nil, _ => 0
  | cons _ _, nil => 0
  | cons b n, cons b' n' => max (max (1 + pc b b' + pc n n') (pc (b.app n) (cons b' n'))) (pc (cons b n) (b'.app n'))
termination_by x y => x.size + y.size
decreasing_by all_goals (simp only [size, app_size]; omega)
theorem pc_nil (y : F) : pc nil y = 0 := by unfold pc; rfl
theorem pc_nil2 (x : F) : pc x nil = 0 := by cases x <;> (unfold pc; rfl)
theorem pc_cons (b n b' n' : F) : pc (cons b n) (cons b' n') = max (max (1 + pc b b' + pc n n') (pc (b.app n) (cons b' n'))) (pc (cons b n) (b'.app n')) := by rw [pc]
theorem pc_le (s : Nat) : ∀ x y : F, x.size + y.size ≤ s → pc x y ≤ x.size ∧ pc x y ≤ y.size := by
  induction s with
  | zero =>
    intro x y h
    obtain rfl := size_zero (f := x) (by omega)
    rw [pc_nil]; omega
  | succ s ih =>
    intro x y h
    cases x with
    | nil => rw [pc_nil]; omega
    | cons b n =>
      cases y with
      | nil => rw [pc_nil2]; omega
      | cons b' n' =>
        simp only [size] at h
        have h1 := ih b b' (by omega)
        have h2 := ih n n' (by omega)
        have h3 := ih (b.app n) (cons b' n') (by simp only [size, app_size]; omega)
        have h4 := ih (cons b n) (b'.app n') (by simp only [size, app_size]; omega)
        simp only [size, app_size] at h3 h4 ⊢
        rw [pc_cons]
        omega
/-- How many numbers come to be known. -/
def st : F → F → Nat
  | nil, _ => 0
  | cons _ _, nil => 0
  | cons b n, cons b' n' => 1 + st b b' + st n n' + st (b.app n) (cons b' n') + st (cons b n) (b'.app n')
termination_by x y => x.size + y.size
decreasing_by all_goals (simp only [size, app_size]; omega)
theorem st_nil (y : F) : st nil y = 0 := by unfold st; rfl
theorem st_nil2 (x : F) : st x nil = 0 := by cases x <;> (unfold st; rfl)
theorem st_cons (b n b' n' : F) : st (cons b n) (cons b' n') = 1 + st b b' + st n n' + st (b.app n) (cons b' n') + st (cons b n) (b'.app n') := by rw [st]
end F
def hp : Nat → Nat × Nat
  | 0 => (1, 1)
  | s + 1 => ((hp s).2, 2 * (hp s).2 + (hp s).1)
def hh (s : Nat) : Nat := (hp s).1
theorem hh_zero : hh 0 = 1 := rfl
theorem hh_step (s : Nat) : hh (s + 2) = 2 * hh (s + 1) + hh s := rfl
theorem hh_pos : ∀ s, 1 ≤ hh s ∧ hh s ≤ hh (s + 1) := by
  intro s
  induction s with
  | zero => decide
  | succ s ih => have h1 := hh_step s; have e : s + 1 + 1 = s + 2 := rfl; rw [e]; constructor <;> omega
theorem hh_diff (i : Nat) : ∀ j, hh (i + 1) + hh (i + j) ≤ hh (i + j + 1) + hh i := by
  intro j
  induction j generalizing i with
  | zero => simp only [Nat.add_zero]; omega
  | succ j ih =>
    have h1 := ih (i + 1)
    have e1 : i + 1 + j = i + (j + 1) := by omega
    rw [e1] at h1
    have h2 := hh_step i
    have h3 := hh_pos i
    have h4 := hh_pos (i + 1)
    have e2 : i + 1 + 1 = i + 2 := by omega
    rw [e2] at h1
    omega
theorem hh_sum (i : Nat) : ∀ j, hh i + hh j ≤ hh (i + j) + 1 := by
  induction i with
  | zero => intro j; rw [Nat.zero_add, hh_zero]; omega
  | succ i ih =>
    intro j
    have h1 := ih j
    have h2 := hh_diff i j
    have e : i + 1 + j = i + j + 1 := by omega
    rw [e]
    omega
theorem hh_mono {i j : Nat} (h : i ≤ j) : hh i ≤ hh j := by
  induction h with
  | refl => exact Nat.le_refl _
  | step _ ih => exact Nat.le_trans ih (hh_pos _).2
theorem hh_48 : hh 48 ≤ 2000000000000000000 := by decide +kernel
theorem F.st_le (s : Nat) : ∀ x y : F, x.size + y.size ≤ s → F.st x y + 1 ≤ hh (x.size + y.size) := by
  induction s with
  | zero =>
    intro x y h
    obtain rfl := size_zero (f := x) (by omega)
    rw [F.st_nil]; have := (hh_pos (F.nil.size + y.size)).1; omega
  | succ s ih =>
    intro x y h
    cases x with
    | nil => rw [F.st_nil]; have := (hh_pos (F.nil.size + y.size)).1; omega
    | cons b n =>
      cases y with
      | nil => rw [F.st_nil2]; have := (hh_pos ((F.cons b n).size + F.nil.size)).1; omega
      | cons b' n' =>
        simp only [size] at h
        have h1 := ih b b' (by omega)
        have h2 := ih n n' (by omega)
        have h3 := ih (b.app n) (.cons b' n') (by simp only [F.size, F.app_size]; omega)
        have h4 := ih (.cons b n) (b'.app n') (by simp only [F.size, F.app_size]; omega)
        obtain ⟨s', e⟩ : ∃ s', (b.size + b'.size) + (n.size + n'.size) = s' := ⟨_, rfl⟩
        have e3 : (b.app n).size + (F.cons b' n').size = s' + 1 := by simp only [F.size, F.app_size]; omega
        have e4 : (F.cons b n).size + (b'.app n').size = s' + 1 := by simp only [F.size, F.app_size]; omega
        have e5 : (F.cons b n).size + (F.cons b' n').size = s' + 2 := by simp only [F.size]; omega
        rw [e3] at h3
        rw [e4] at h4
        rw [e5, F.st_cons, hh_step]
        have h5 := hh_sum (b.size + b'.size) (n.size + n'.size)
        rw [e] at h5
        omega
theorem F.st_small {x y : F} (hx : x.size ≤ 24) (hy : y.size ≤ 24) : F.st x y ≤ 2000000000000000000 := by
  have h1 := F.st_le _ x y (Nat.le_refl _)
  have h2 := hh_mono (show x.size + y.size ≤ 48 by omega)
  have h3 := hh_48
  omega
namespace F
/-- From the back to the front. -/
def mir : F → F
  | nil => nil
  | cons b n => n.mir.app (cons b.mir nil)
theorem mir_size : ∀ f : F, f.mir.size = f.size := by
  intro f
  induction f with
  | nil => rfl
  | cons b n hb hn => simp only [mir, size, app_size, hb, hn]; omega
/-- A list of roots tells a list of trees. -/
def RL (t : F) : List Int → F → Prop
  | f, nil => f = []
  | f, cons b n => ∃ (l : List Int) (v : Nat), f = l ++ [(v : Int)] ∧ v < t.size ∧ RL t ((t.sub v).roots (v + 1)) b ∧ RL t l n
theorem RL_nil {t : F} {f : List Int} : RL t f nil ↔ f = [] := Iff.rfl
theorem RL_app {t : F} {k : List Int} {l : List Int} {n : F} (hn : RL t l n) : ∀ (b : F) (k : List Int), RL t k b → RL t (l ++ k) (b.app n) := by
  intro b
  induction b with
  | nil => intro k hk; rw [RL_nil.1 hk, List.append_nil]; exact hn
  | cons c m _ hm =>
    intro k hk
    obtain ⟨l1, v, rfl, hv, h1, h2⟩ := hk
    exact ⟨l ++ l1, v, by rw [List.append_assoc], hv, h1, hm l1 h2⟩
theorem RL_uniq {t : F} : ∀ (x : F) (f : List Int), RL t f x → ∀ y, RL t f y → x = y := by
  intro x
  induction x with
  | nil =>
    intro f h y hy
    obtain rfl := RL_nil.1 h
    cases y with
    | nil => rfl
    | cons b n => obtain ⟨l, v, e, _⟩ := hy; simp at e
  | cons b n hb hn =>
    intro f h y hy
    obtain ⟨l, v, rfl, hv, h1, h2⟩ := h
    cases y with
    | nil => have := RL_nil.1 hy; simp at this
    | cons b' n' =>
      obtain ⟨l', v', e, hv', h1', h2'⟩ := hy
      have e2 := List.append_inj' e rfl
      obtain ⟨rfl, e3⟩ := e2
      obtain rfl : v = v' := Int.ofNat.inj (List.cons.inj e3).1
      rw [hb _ h1 b' h1', hn _ h2 n' h2']
theorem RL_mem {t : F} : ∀ (x : F) (f : List Int), RL t f x → ∀ v ∈ f, ∃ u : Nat, v = (u : Int) ∧ u < t.size := by
  intro x
  induction x with
  | nil => intro f h v hv; rw [RL_nil.1 h] at hv; cases hv
  | cons b n _ hn =>
    intro f h v hv
    obtain ⟨l, u, rfl, hu, _, h2⟩ := h
    rcases List.mem_append.1 hv with h3 | h3
    · exact hn l h2 v h3
    · exact ⟨u, by simpa using h3, hu⟩
theorem RL_len {t : F} : ∀ (x : F) (f : List Int), RL t f x → f.length = x.len := by
  intro x
  induction x with
  | nil => intro f h; rw [RL_nil.1 h]; rfl
  | cons b n _ hn =>
    intro f h
    obtain ⟨l, u, rfl, hu, _, h2⟩ := h
    simp [len, hn l h2]; omega
end F
theorem RL_roots {d : List Int} {t : F} (h : Tree d t) : ∀ (g : F) (p : Nat), Pl d p g → F.RL t (g.roots p) g.mir := by
  intro g
  induction g with
  | nil => intro p _; exact F.RL_nil.2 rfl
  | cons b n hb hn =>
    intro p hp
    have hl := hp.le
    simp only [F.size] at hl
    have hlt : p < t.size := by have := h.len; omega
    obtain ⟨n', hq⟩ := h.node hlt
    have e := hp.uniq1 hq
    have h1 : F.RL t [(p : Int)] (.cons b.mir .nil) := ⟨[], p, rfl, hlt, by rw [← e]; exact hb (p + 1) hp.below, F.RL_nil.2 rfl⟩
    exact F.RL_app (k := []) h1 n.mir (n.roots (p + 1 + b.size)) (hn _ hp.next)
theorem RL_whole {d : List Int} {t : F} (h : Tree d t) : F.RL t [0] t.mir := by
  have h1 := RL_roots h t 0 h.pl
  obtain ⟨_, ⟨b, rfl⟩, _⟩ := h
  exact h1
namespace F
end F
namespace F
def takeF : Nat → F → F
  | 0, _ => nil
  | _ + 1, nil => nil
  | k + 1, cons b n => cons b (n.takeF k)
def dropF : Nat → F → F
  | 0, f => f
  | _ + 1, nil => nil
  | k + 1, cons _ n => n.dropF k
/-- The list of trees that a list of degrees tells. -/
def dec (l : List Int) : F := l.foldr (fun k st => cons (st.takeF k.toNat) (st.dropF k.toNat)) nil
theorem take_app : ∀ (f g : F), (f.app g).takeF f.len = f := by
  intro f
  induction f with
  | nil => intro g; cases g <;> rfl
  | cons b n _ hn =>
    intro g
    have e : (cons b n).len = n.len + 1 := by simp only [len]; omega
    rw [e]
    show cons b ((n.app g).takeF n.len) = _
    rw [hn]
theorem drop_app : ∀ (f g : F), (f.app g).dropF f.len = g := by
  intro f
  induction f with
  | nil => intro g; cases g <;> rfl
  | cons b n _ hn =>
    intro g
    have e : (cons b n).len = n.len + 1 := by simp only [len]; omega
    rw [e]
    show (n.app g).dropF n.len = _
    rw [hn]
theorem dec_enc : ∀ (f : F) (s : List Int), dec (f.enc ++ s) = f.app (dec s) := by
  intro f
  induction f with
  | nil => intro s; rfl
  | cons b n hb hn =>
    intro s
    have e : (cons b n).enc ++ s = (b.len : Int) :: (b.enc ++ (n.enc ++ s)) := by simp [enc]
    rw [e]
    show cons ((dec (b.enc ++ (n.enc ++ s))).takeF ((b.len : Int)).toNat) ((dec (b.enc ++ (n.enc ++ s))).dropF ((b.len : Int)).toNat) = _
    rw [hb, hn, Int.toNat_natCast, take_app, drop_app]
    rfl
end F
theorem Tree.dec {d : List Int} {t : F} (h : Tree d t) : F.dec d = t := by
  have := F.dec_enc t []
  rw [List.append_nil, ← h.enc] at this
  rw [this]
  exact F.app_nil t
end Go.Proofs.Ytlppkilencpmeaa.Tr
