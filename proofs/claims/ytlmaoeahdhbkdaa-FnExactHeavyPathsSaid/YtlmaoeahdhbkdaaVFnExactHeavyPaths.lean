import Derived.Test.YtlmaoeahdhbkdaaQFnExactHeavyPathsx
import Derived.Test.YtlmaoeahdhbkdaaTr
import Derived.Test.YtlmaoeahdhbkdaaNd
import Derived.Test.YtlmaoeahdhbkdaaGr
import Derived.Test.YtlmaoeahdhbkdaaIx
import Derived.Test.YtlmaoeahdhbkdaaLf
import Derived.Test.YtlmaoeahdhbkdaaHp
namespace Go.Proofs.Ytlmaoeahdhbkdaa.QFnExactHeavyPaths
open Go.RowKit Go.Proofs.YtlmaoeahdhbkdaaW.PrintWords Go.Proofs.YtlmaoeahdhbkdaaW.PrintLast Go.Proofs.YtlmaoeahdhbkdaaW.PrintMore Go.Proofs.Ytlmaoeahdhbkdaa
set_option linter.unusedVariables false
set_option linter.unusedSimpArgs false
theorem Ev_succ {α : Type} {g : Nat → Option α} {r : α} (h : Ev (fun k => g (k + 1)) r) : Ev g r := Ev.step (fun _ => rfl) h
theorem evpos {α : Type} {c : Prop} [Decidable c] {f g : Nat → Option α} {r : α} (h : c) (k : Ev f r) : Ev (fun n => if c then f n else g n) r := by
  simp only [if_pos h]; exact k
theorem evneg {α : Type} {c : Prop} [Decidable c] {f g : Nat → Option α} {r : α} (h : ¬ c) (k : Ev g r) : Ev (fun n => if c then f n else g n) r := by
  simp only [if_neg h]; exact k
theorem evsome {α β : Type} {a : α} {f : Nat → α → Option β} {r : β} (k : Ev (fun n => f n a) r) : Ev (fun n => (some a).bind (f n)) r := k
theorem evnow {α : Type} {a r : α} (h : a = r) : Ev (fun _ => some a) r := by subst h; exact Ev.now _
theorem ev_eq_l0 (xs ys : List Int) (hl : xs.length = ys.length) (hb : xs.length ≤ 1152921504606846976) : ∀ (n i : Nat), i + n = xs.length →
    Ev (fun k => laws_eqInt64S.l0 k xs ys (i : Nat)) (decide (xs.drop i = ys.drop i)) := by
  intro n
  induction n with
  | zero =>
    intro i hi
    refine Ev_succ ?_
    simp only [laws_eqInt64S.l0]
    refine evneg (by omega) (evnow ?_)
    rw [List.drop_of_length_le (by omega), List.drop_of_length_le (by omega)]; rfl
  | succ n ih =>
    intro i hi
    refine Ev_succ ?_
    simp only [laws_eqInt64S.l0]
    refine evpos (by omega) (evpos (by omega) (evpos (by omega) ?_))
    rw [Tr.rd_getElem (by omega : i < xs.length), Tr.rd_getElem (by omega : i < ys.length)]
    have e : wrap64 ((i : Int) + 1) = ((i + 1 : Nat) : Int) := by rw [Tr.wrap_id (by omega) (by omega)]; omega
    rw [e]
    have e3 : (xs.drop i = ys.drop i) = (xs[i] = ys[i] ∧ xs.drop (i + 1) = ys.drop (i + 1)) := by
      rw [List.drop_eq_getElem_cons (by omega : i < xs.length), List.drop_eq_getElem_cons (by omega : i < ys.length)]
      exact List.cons.injEq _ _ _ _
    have e4 : decide (xs.drop i = ys.drop i) = decide (xs[i] = ys[i] ∧ xs.drop (i + 1) = ys.drop (i + 1)) := by simp only [e3]
    rw [e4]
    by_cases h : xs[i] = ys[i]
    · refine evpos h ?_
      have := ih (i + 1) (by omega)
      rw [show decide (xs[i] = ys[i] ∧ xs.drop (i + 1) = ys.drop (i + 1)) = decide (xs.drop (i + 1) = ys.drop (i + 1)) by simp only [h, true_and]]
      exact this
    · refine evneg h (evnow ?_)
      simp only [h, false_and, decide_false]
theorem ev_eqInt64S (xs ys : List Int) (hb : xs.length ≤ 1152921504606846976) (hc : ys.length ≤ 1152921504606846976) : Ev (fun k => laws_eqInt64S.f k xs ys) (decide (xs = ys)) := by
  unfold laws_eqInt64S.f
  by_cases h : xs.length = ys.length
  · refine evpos (by omega) ?_
    have := ev_eq_l0 xs ys h hb xs.length 0 (by omega)
    simpa using this
  · refine evneg (by omega) (evnow ?_)
    rw [eq_comm, decide_eq_false_iff_not]
    intro e; exact h (by rw [e])
theorem ev_eqTree (xs ys : List Int) (hb : xs.length ≤ 1152921504606846976) (hc : ys.length ≤ 1152921504606846976) : Ev (fun k => laws_eqTree.f k xs ys) (decide (xs = ys)) := by
  unfold laws_eqTree.f
  refine Ev.bind (ev_eqInt64S xs ys hb hc) ?_
  by_cases h : xs = ys
  · rw [decide_eq_true h]; exact evpos rfl (Ev.now _)
  · rw [decide_eq_false h]; exact evneg (by simp) (Ev.now _)
theorem szInt64S_eq (xs : List Int) (a : Int) (h0 : 0 ≤ a) (h1 : a ≤ 1048576) (hb : xs.length ≤ 9223372036854775807) : laws_szInt64S.f xs a = some (if a - xs.length < 0 then -1 else a - xs.length) := by
  unfold laws_szInt64S.f
  rw [Tr.wrap_id (by omega) (by omega)]
  split <;> rfl
theorem szTree_eq (xs : List Int) (a : Int) (h0 : 0 ≤ a) (h1 : a ≤ 1048576) (hb : xs.length ≤ 9223372036854775807) : laws_szTree.f xs a = some (if a - xs.length < 0 then -1 else a - xs.length) := by
  unfold laws_szTree.f
  rw [szInt64S_eq xs a h0 h1 hb]
  simp only [Option.bind_some]
  by_cases h : a - xs.length < 0
  · simp only [if_pos h]; rfl
  · simp only [if_neg h]
theorem ev_to_l0 (xs : List Int) (hb : xs.length ≤ 35184372088832) : ∀ (n i : Nat) (ys : List Int), i + n = xs.length → ys.length = xs.length → ys.take i = xs.take i →
    Ev (fun k => laws_toInt64S.l0 k xs ys (i : Nat)) xs := by
  intro n
  induction n with
  | zero =>
    intro i ys hi hy ht
    refine Ev_succ ?_
    simp only [laws_toInt64S.l0]
    refine evneg (by omega) (evnow ?_)
    rwa [List.take_of_length_le (by omega), List.take_of_length_le (by omega)] at ht
  | succ n ih =>
    intro i ys hi hy ht
    refine Ev_succ ?_
    simp only [laws_toInt64S.l0]
    refine evpos (by omega) (evpos (by omega) (evpos (by omega) ?_))
    have e : wrap64 ((i : Int) + 1) = ((i + 1 : Nat) : Int) := by rw [Tr.wrap_id (by omega) (by omega)]; omega
    rw [e, Tr.rd_getElem (by omega : i < xs.length), Int.toNat_natCast]
    refine ih (i + 1) _ (by omega) (by simp [hy]) ?_
    rw [List.take_succ_eq_append_getElem (by simp; omega), List.take_succ_eq_append_getElem (by omega)]
    simp [List.take_set_of_le, ht]
theorem ev_toInt64S (xs : List Int) (hb : xs.length ≤ 35184372088832) : Ev (fun k => laws_toInt64S.f k xs) xs := by
  unfold laws_toInt64S.f
  refine evpos (by omega) (evpos (by omega) ?_)
  have := ev_to_l0 xs hb xs.length 0 (List.replicate xs.length 0) (by omega) (by simp) (by simp)
  simpa using this
theorem ev_toTree (xs : List Int) (hb : xs.length ≤ 35184372088832) : Ev (fun k => laws_toTree.f k xs) xs := by
  unfold laws_toTree.f
  exact Ev.bind (ev_toInt64S xs hb) (Ev.now _)
/-- The numbers m, m + 1, .. -/
def up (m : Int) : Nat → List Int
  | 0 => []
  | n + 1 => m :: up (m + 1) n
theorem up_len (n : Nat) : ∀ m, (up m n).length = n := by
  induction n with
  | zero => intro m; rfl
  | succ n ih => intro m; simp [up, ih]
theorem up_get (n : Nat) : ∀ (m : Int) (i : Nat) (h : i < (up m n).length), (up m n)[i] = m + i := by
  induction n with
  | zero => intro m i h; simp [up] at h
  | succ n ih =>
    intro m i h
    cases i with
    | zero => simp [up]
    | succ i => simp only [up, List.getElem_cons_succ, ih]; omega
theorem ev_mark_l0 (a : Int) (N : Nat) (h0 : 0 ≤ a) (h1 : a + N ≤ 1152921504606846976) : ∀ (n i : Nat) (xs : List Int), i + n = N → xs.length = N → xs.take i = (up a N).take i →
    Ev (fun k => laws_markInt64S.l0 k xs (a + i) (i : Nat)) (a + N, up a N) := by
  intro n
  induction n with
  | zero =>
    intro i xs hi hy ht
    refine Ev_succ ?_
    simp only [laws_markInt64S.l0]
    refine evneg (by omega) (evnow ?_)
    rw [List.take_of_length_le (by omega), List.take_of_length_le (by rw [up_len]; omega)] at ht
    rw [ht]
    have : i = N := by omega
    subst this; rfl
  | succ n ih =>
    intro i xs hi hy ht
    refine Ev_succ ?_
    simp only [laws_markInt64S.l0]
    refine evpos (by omega) (evpos (by omega) ?_)
    have e : wrap64 ((i : Int) + 1) = ((i + 1 : Nat) : Int) := by rw [Tr.wrap_id (by omega) (by omega)]; omega
    have e2 : wrap64 (a + (i : Int) + 1) = a + ((i + 1 : Nat) : Int) := by rw [Tr.wrap_id (by omega) (by omega)]; omega
    rw [e, e2, Int.toNat_natCast]
    refine ih (i + 1) _ (by omega) (by simp [hy]) ?_
    rw [List.take_succ_eq_append_getElem (by simp; omega), List.take_succ_eq_append_getElem (by rw [up_len]; omega), up_get]
    simp [List.take_set_of_le, ht]
theorem ev_markInt64S (xs : List Int) (a : Int) (h0 : 0 ≤ a) (h1 : a + xs.length ≤ 1152921504606846976) : Ev (fun k => laws_markInt64S.f k xs a) (a + xs.length, up a xs.length) := by
  unfold laws_markInt64S.f
  have := ev_mark_l0 a xs.length h0 h1 xs.length 0 xs (by omega) rfl (by simp)
  simpa using this
theorem ev_held_l0 (a : Int) (N : Nat) (h0 : 0 ≤ a) (h1 : a + N ≤ 1152921504606846976) : ∀ (n i : Nat), i + n = N →
    Ev (fun k => laws_heldInt64S.l0 k (up a N) (a + i) (i : Nat)) (a + N) := by
  intro n
  induction n with
  | zero =>
    intro i hi
    refine Ev_succ ?_
    simp only [laws_heldInt64S.l0, up_len]
    refine evneg (by omega) (evnow ?_)
    omega
  | succ n ih =>
    intro i hi
    refine Ev_succ ?_
    simp only [laws_heldInt64S.l0, up_len]
    have e : wrap64 ((i : Int) + 1) = ((i + 1 : Nat) : Int) := by rw [Tr.wrap_id (by omega) (by omega)]; omega
    have e2 : wrap64 (a + (i : Int) + 1) = a + ((i + 1 : Nat) : Int) := by rw [Tr.wrap_id (by omega) (by omega)]; omega
    have e3 : rd (up a N) (i : Int) = a + i := by rw [Tr.rd_getElem (by rw [up_len]; omega), up_get]
    refine evpos (by omega) (evpos (by omega) (evpos e3 ?_))
    rw [e, e2]
    exact ih (i + 1) (by omega)
theorem ev_heldInt64S (N : Nat) (a : Int) (h0 : 0 ≤ a) (h1 : a + N ≤ 1152921504606846976) : Ev (fun k => laws_heldInt64S.f k (up a N) a) (a + N) := by
  unfold laws_heldInt64S.f
  have := ev_held_l0 a N h0 h1 N 0 (by omega)
  simpa using this
theorem ev_markTree (xs : List Int) (a : Int) (h0 : 0 ≤ a) (h1 : a + xs.length ≤ 1152921504606846976) : Ev (fun k => laws_markTree.f k xs a) (a + xs.length, up a xs.length) := by
  unfold laws_markTree.f
  exact Ev.bind (ev_markInt64S xs a h0 h1) (evnow rfl)
theorem ev_isTree_l0 : ∀ (l pre : List Int) (m : Int) (n : Int), n = ((pre ++ l).length : Int) → n ≤ 1000 → 0 ≤ m → m + 24 * l.length ≤ 100000 →
    Ev (fun k => impl_isTree.l0 k m (pre ++ l) n (pre.length : Int)) (Tr.ok l m) := by
  intro l
  induction l with
  | nil =>
    intro pre m n hn hb h0 h1
    refine Ev_succ ?_
    simp only [impl_isTree.l0]
    simp only [List.length_append, List.length_nil] at hn
    refine evneg (by omega) (evnow ?_)
    rfl
  | cons x l ih =>
    intro pre m n hn hb h0 h1
    refine Ev_succ ?_
    simp only [impl_isTree.l0]
    have hn' := hn
    simp only [List.length_append, List.length_cons] at hn h1 ⊢
    refine evpos (by omega) (evpos (by omega) (evpos (by simp; omega) ?_))
    have e : rd (pre ++ x :: l) (pre.length : Int) = x := by rw [Tr.rd_app0]; exact Tr.rd_cons0 _ _
    rw [e]
    by_cases hm : m = 0
    · refine evpos hm (evnow ?_); simp [Tr.ok, hm]
    · refine evneg hm ?_
      by_cases hx : x < 0
      · refine evpos hx (evnow ?_); simp [Tr.ok, hm, Int.not_le.mpr hx]
      · refine evneg hx ?_
        by_cases hy : x ≥ 24
        · refine evpos hy (evnow ?_); simp [Tr.ok, hm, Int.not_lt.mpr hy]
        · refine evneg hy ?_
          have e2 : wrap64 (m + wrap64 (x - 1)) = m - 1 + x := by rw [Tr.wrap_id (x := x - 1) (by omega) (by omega), Tr.wrap_id (by omega) (by omega)]; omega
          have e3 : wrap64 ((pre.length : Int) + 1) = ((pre ++ [x]).length : Int) := by rw [Tr.wrap_id (by omega) (by omega)]; simp
          rw [e2, e3]
          have := ih (pre ++ [x]) (m - 1 + x) n (by simp; omega) hb (by omega) (by omega)
          simp only [List.append_assoc, List.singleton_append] at this
          rw [show Tr.ok (x :: l) m = Tr.ok l (m - 1 + x) by
            have : (m != 0) = true := bne_iff_ne.mpr hm
            have h4 : decide (0 ≤ x) = true := decide_eq_true (by omega)
            have h5 : decide (x < 24) = true := decide_eq_true (by omega)
            simp only [Tr.ok, this, h4, h5, Bool.true_and]]
          exact this
theorem ev_isTree (d : List Int) : Ev (fun k => impl_isTree.f k d) (Tr.isT d) := by
  unfold impl_isTree.f
  by_cases h : (d.length : Int) < 1
  · refine evpos h (Ev_succ ?_)
    simp only [impl_isTree.j0]
    refine evpos (by simp) (evnow ?_)
    simp only [Tr.isT, decide_eq_false (by omega : ¬ 1 ≤ d.length), Bool.false_and]
  · refine evneg h (Ev_succ ?_)
    simp only [impl_isTree.j0]
    by_cases h2 : (d.length : Int) > 24
    · refine evpos (decide_eq_true h2) (evnow ?_)
      simp only [Tr.isT, decide_eq_false (by omega : ¬ d.length ≤ 24), Bool.false_and, Bool.and_false]
    · refine evneg (by simpa using h2) ?_
      have := ev_isTree_l0 d [] 1 d.length (by simp) (by omega) (by omega) (by omega)
      rw [show Tr.isT d = Tr.ok d 1 by simp only [Tr.isT, decide_eq_true (by omega : 1 ≤ d.length), decide_eq_true (by omega : d.length ≤ 24), Bool.true_and]]
      exact this
theorem ev_IsTree (d : List Int) : Ev (fun k => impl_IsTree.f k d) (Tr.isT d) := by
  unfold impl_IsTree.f
  exact Ev.bind (ev_isTree d) (Ev.now _)
theorem l01In_eq (a b c : Int) : spec_l01In.f a b c = some (decide (b ≤ a ∧ a ≤ c)) := by
  unfold spec_l01In.f
  by_cases h : a ≥ b
  · rw [if_pos h]; congr 1; simp; omega
  · rw [if_neg h]; congr 1; symm; simp; omega
theorem l01N_eq (d : List Int) : spec_l01N.f d = some (d.length : Int) := rfl
theorem ev_l01Is_l0 : ∀ (l pre : List Int) (m : Int), (pre ++ l).length ≤ 24 → 0 ≤ m → (m ≥ 1 ∨ True) → m + 25 * l.length ≤ 100000 →
    Ev (fun k => spec_l01Is.l0 k m (pre.length : Int) (pre ++ l)) (Tr.ok25 l m) := by
  intro l
  induction l with
  | nil =>
    intro pre m hb h0 _ h1
    refine Ev_succ ?_
    simp only [spec_l01Is.l0, List.length_append, List.length_nil]
    refine evneg (by omega) (evnow ?_)
    rfl
  | cons x l ih =>
    intro pre m hb h0 _ h1
    refine Ev_succ ?_
    simp only [spec_l01Is.l0]
    simp only [List.length_append, List.length_cons] at h1 hb ⊢
    refine evpos (by omega) ?_
    have e : rd (pre ++ x :: l) (pre.length : Int) = x := by rw [Tr.rd_app0]; exact Tr.rd_cons0 _ _
    rw [e, l01In_eq]
    by_cases hm : m = 0
    · refine evpos hm (evnow ?_); simp [Tr.ok25, hm]
    · refine evneg hm (evpos (by omega) (evsome ?_))
      by_cases hx : 0 ≤ x ∧ x ≤ 24
      · refine evpos (decide_eq_true hx) ?_
        have e2 : wrap64 (wrap64 (m - 1) + x) = m - 1 + x := by rw [Tr.wrap_id (x := m - 1) (by omega) (by omega), Tr.wrap_id (by omega) (by omega)]
        have e3 : wrap64 ((pre.length : Int) + 1) = ((pre ++ [x]).length : Int) := by rw [Tr.wrap_id (by omega) (by omega)]; simp
        rw [e2, e3]
        have := ih (pre ++ [x]) (m - 1 + x) (by simp; omega) (by omega) (.inr trivial) (by omega)
        simp only [List.append_assoc, List.singleton_append] at this
        rw [show Tr.ok25 (x :: l) m = Tr.ok25 l (m - 1 + x) by
          have : (m != 0) = true := bne_iff_ne.mpr hm
          simp only [Tr.ok25, this, decide_eq_true hx, Bool.true_and]]
        exact this
      · refine evneg (by simpa using hx) (evnow ?_)
        simp only [Tr.ok25, decide_eq_false hx, Bool.false_and, Bool.and_false]
theorem ev_l01Is (d : List Int) : Ev (fun k => spec_l01Is.f k d) (Tr.isT d) := by
  unfold spec_l01Is.f
  rw [l01N_eq]
  refine evsome ?_
  rw [l01In_eq]
  refine evsome ?_
  by_cases h : (1 : Int) ≤ (d.length : Int) ∧ (d.length : Int) ≤ 24
  · refine evpos (decide_eq_true h) ?_
    have := ev_l01Is_l0 d [] 1 (by simp; omega) (by omega) (.inr trivial) (by omega)
    rw [Tr.isT_eq25 d (by omega) (by omega)]
    exact this
  · refine evneg (by simpa using h) (evnow ?_)
    simp only [Tr.isT]
    by_cases h2 : 1 ≤ d.length
    · simp only [decide_eq_false (by omega : ¬ d.length ≤ 24), Bool.false_and, Bool.and_false]
    · simp only [decide_eq_false h2, Bool.false_and]
theorem ev_endOf_l0 (d : List Int) (hd : d.length ≤ 1000) (r : Int) : ∀ (g : Tr.F) (p j : Nat), Tr.Pl d p g → j + g.size ≤ 100000 →
    Ev (fun k => impl_endOf.l0 k d ((p + g.size : Nat) : Int) (j : Int)) r → Ev (fun k => impl_endOf.l0 k d (p : Int) ((g.len + j : Nat) : Int)) r := by
  intro g
  induction g with
  | nil => intro p j _ _ h; simpa [Tr.F.size, Tr.F.len] using h
  | cons b n hb hn =>
    intro p j hp hj h
    have hle := hp.le
    simp only [Tr.F.size] at hle hj
    have l1 := Tr.F.len_le b
    have l2 := Tr.F.len_le n
    refine Ev_succ ?_
    simp only [impl_endOf.l0, Tr.F.len]
    refine evpos (by omega) (evpos (by omega) (evpos (by omega) ?_))
    rw [hp.deg]
    have e : wrap64 ((p : Int) + 1) = ((p + 1 : Nat) : Int) := by rw [Tr.wrap_id (by omega) (by omega)]; omega
    have e2 : wrap64 (((1 + n.len + j : Nat) : Int) + wrap64 ((b.len : Int) - 1)) = ((b.len + (n.len + j) : Nat) : Int) := by
      rw [Tr.wrap_id (x := (b.len : Int) - 1) (by omega) (by omega), Tr.wrap_id (by omega) (by omega)]; omega
    rw [e, e2]
    refine hb (p + 1) (n.len + j) hp.below (by omega) ?_
    refine hn (p + 1 + b.size) j hp.next (by omega) ?_
    rw [show p + 1 + b.size + n.size = p + (Tr.F.cons b n).size by simp only [Tr.F.size]; omega]
    exact h
theorem ev_endOf {d : List Int} (hd : d.length ≤ 1000) {p : Nat} {b n : Tr.F} (h : Tr.Pl d p (.cons b n)) : Ev (fun k => impl_endOf.f k d (p : Int)) ((p + 1 + b.size : Nat) : Int) := by
  unfold impl_endOf.f
  have := ev_endOf_l0 d hd ((p + 1 + b.size : Nat) : Int) (.cons b .nil) p 0 h.one (by have := h.le; simp only [Tr.F.size] at this ⊢; omega)
  simp only [Tr.F.len, Tr.F.size] at this
  refine this ?_
  refine Ev_succ ?_
  simp only [impl_endOf.l0]
  refine evneg (by omega) (evnow (by omega))
theorem ev_l01End_l0 (d : List Int) (hd : d.length ≤ 1000) (r : Int) : ∀ (g : Tr.F) (p j : Nat), Tr.Pl d p g → j + g.size ≤ 100000 →
    Ev (fun k => spec_l01End.l0 k ((p + g.size : Nat) : Int) (j : Int) d) r → Ev (fun k => spec_l01End.l0 k (p : Int) ((g.len + j : Nat) : Int) d) r := by
  intro g
  induction g with
  | nil => intro p j _ _ h; simpa [Tr.F.size, Tr.F.len] using h
  | cons b n hb hn =>
    intro p j hp hj h
    have hle := hp.le
    simp only [Tr.F.size] at hle hj
    have l1 := Tr.F.len_le b
    have l2 := Tr.F.len_le n
    refine Ev_succ ?_
    simp only [spec_l01End.l0, Tr.F.len]
    refine evpos (by omega) (evpos (by omega) (evpos (by omega) ?_))
    rw [hp.deg]
    have e : wrap64 ((p : Int) + 1) = ((p + 1 : Nat) : Int) := by rw [Tr.wrap_id (by omega) (by omega)]; omega
    have e2 : wrap64 (wrap64 (((1 + n.len + j : Nat) : Int) - 1) + (b.len : Int)) = ((b.len + (n.len + j) : Nat) : Int) := by
      rw [Tr.wrap_id (x := ((1 + n.len + j : Nat) : Int) - 1) (by omega) (by omega), Tr.wrap_id (by omega) (by omega)]; omega
    rw [e, e2]
    refine hb (p + 1) (n.len + j) hp.below (by omega) ?_
    refine hn (p + 1 + b.size) j hp.next (by omega) ?_
    rw [show p + 1 + b.size + n.size = p + (Tr.F.cons b n).size by simp only [Tr.F.size]; omega]
    exact h
theorem ev_l01End {d : List Int} (hd : d.length ≤ 1000) {p : Nat} {b n : Tr.F} (h : Tr.Pl d p (.cons b n)) : Ev (fun k => spec_l01End.f k d (p : Int)) ((p + 1 + b.size : Nat) : Int) := by
  unfold spec_l01End.f
  have := ev_l01End_l0 d hd ((p + 1 + b.size : Nat) : Int) (.cons b .nil) p 0 h.one (by have := h.le; simp only [Tr.F.size] at this ⊢; omega)
  simp only [Tr.F.len, Tr.F.size] at this
  refine this ?_
  refine Ev_succ ?_
  simp only [spec_l01End.l0]
  refine evneg (by omega) (evnow (by omega))
theorem ev_kidsOf_l0 (d : List Int) (hd : d.length ≤ 1000) : ∀ (g : Tr.F) (p i N : Nat) (out : List Int), Tr.Pl d p g → i + g.len = N → N ≤ 1000 → out.length ≤ i →
    Ev (fun k => impl_kidsOf.l0 k d out (p : Int) (N : Int) (i : Int)) (out ++ g.roots p) := by
  intro g
  induction g with
  | nil =>
    intro p i N out hp hi hN ho
    simp only [Tr.F.len] at hi
    refine Ev_succ ?_
    simp only [impl_kidsOf.l0]
    refine evneg (by omega) (evnow ?_)
    simp [Tr.F.roots]
  | cons b n hb hn =>
    intro p i N out hp hi hN ho
    simp only [Tr.F.len] at hi
    refine Ev_succ ?_
    simp only [impl_kidsOf.l0]
    refine evpos (by omega) (evpos (by omega) (Ev.bind (ev_endOf hd hp) ?_))
    have e : wrap64 ((i : Int) + 1) = ((i + 1 : Nat) : Int) := by rw [Tr.wrap_id (by omega) (by omega)]; omega
    rw [e]
    have := hn (p + 1 + b.size) (i + 1) N (out ++ [(p : Int)]) hp.next (by omega) hN (by simp; omega)
    simpa [Tr.F.roots] using this
theorem ev_kidsOf {d : List Int} (hd : d.length ≤ 1000) {p : Nat} {b n : Tr.F} (h : Tr.Pl d p (.cons b n)) : Ev (fun k => impl_kidsOf.f k d (p : Int)) (b.roots (p + 1)) := by
  have hle := h.le
  simp only [Tr.F.size] at hle
  have l1 := Tr.F.len_le b
  unfold impl_kidsOf.f
  refine evpos (by omega) (evpos (by omega) ?_)
  have e : wrap64 ((p : Int) + 1) = ((p + 1 : Nat) : Int) := by rw [Tr.wrap_id (by omega) (by omega)]; omega
  rw [h.deg, e]
  have := ev_kidsOf_l0 d hd b (p + 1) 0 b.len [] h.below (by omega) (by omega) (by simp)
  simpa using this
theorem ev_l01Children_l0 (d : List Int) (hd : d.length ≤ 1000) : ∀ (g : Tr.F) (p : Nat) (out : List Int), Tr.Pl d p g → out.length + g.len ≤ 1000 →
    Ev (fun k => spec_l01Children.l0 k out (p : Int) (g.len : Int) d) (out ++ g.roots p) := by
  intro g
  induction g with
  | nil =>
    intro p out hp ho
    refine Ev_succ ?_
    simp only [spec_l01Children.l0, Tr.F.len]
    refine evneg (by omega) (evnow ?_)
    simp [Tr.F.roots]
  | cons b n hb hn =>
    intro p out hp ho
    simp only [Tr.F.len] at ho
    refine Ev_succ ?_
    simp only [spec_l01Children.l0, Tr.F.len]
    refine evpos (by omega) (evpos (by omega) (Ev.bind (ev_l01End hd hp) ?_))
    have e : wrap64 (((1 + n.len : Nat) : Int) - 1) = (n.len : Int) := by rw [Tr.wrap_id (by omega) (by omega)]; omega
    rw [e]
    have := hn (p + 1 + b.size) (out ++ [(p : Int)]) hp.next (by simp; omega)
    simpa [Tr.F.roots] using this
theorem ev_l01Children {d : List Int} (hd : d.length ≤ 1000) {p : Nat} {b n : Tr.F} (h : Tr.Pl d p (.cons b n)) : Ev (fun k => spec_l01Children.f k d (p : Int)) (b.roots (p + 1)) := by
  have hle := h.le
  simp only [Tr.F.size] at hle
  have l1 := Tr.F.len_le b
  unfold spec_l01Children.f
  refine evpos (by omega) (evpos (by omega) ?_)
  have e : wrap64 ((p : Int) + 1) = ((p + 1 : Nat) : Int) := by rw [Tr.wrap_id (by omega) (by omega)]; omega
  rw [h.deg, e]
  have := ev_l01Children_l0 d hd b (p + 1) [] h.below (by simp; omega)
  simpa using this
theorem ev_l01Parents_l1 (d : List Int) (v : Nat) (hv : v ≤ 1000) (r : List Int) : ∀ (l pre out : List Int), (pre ++ l).length ≤ 1000 → (∀ c ∈ l, 0 ≤ c ∧ c < out.length) →
    Ev (fun k => spec_l01Parents.l0 k (Tr.setAll out l v) ((v + 1 : Nat) : Int) d) r → Ev (fun k => spec_l01Parents.l1 k out (v : Int) (pre ++ l) (pre.length : Int) d) r := by
  intro l
  induction l with
  | nil =>
    intro pre out hb _ h
    refine Ev_succ ?_
    simp only [spec_l01Parents.l1]
    refine evneg (by simp) ?_
    have e : wrap64 ((v : Int) + 1) = ((v + 1 : Nat) : Int) := by rw [Tr.wrap_id (by omega) (by omega)]; omega
    rw [e]; exact h
  | cons c l ih =>
    intro pre out hb hc h
    have h1 := hc c (List.mem_cons_self ..)
    refine Ev_succ ?_
    simp only [spec_l01Parents.l1]
    have e : rd (pre ++ c :: l) (pre.length : Int) = c := by rw [Tr.rd_app0]; exact Tr.rd_cons0 _ _
    have hb' := hb
    simp only [List.length_append, List.length_cons] at hb
    have e3 : wrap64 ((pre.length : Int) + 1) = ((pre ++ [c]).length : Int) := by rw [Tr.wrap_id (by omega) (by omega)]; simp
    refine evpos (by simp; omega) (evpos (by omega) (evpos (by rw [e]; omega) (evpos (by rw [e]; omega) ?_)))
    rw [e, e3]
    have := ih (pre ++ [c]) (out.set c.toNat v) (by simpa using hb') (fun x hx => by have := hc x (List.mem_cons_of_mem _ hx); simpa using this) h
    simpa using this
theorem ev_l01Parents_l0 {d : List Int} {t : Tr.F} (h : Tr.Tree d t) : ∀ (m v : Nat) (out : List Int), v + m = t.size → out.length = t.size → (∀ c : Nat, c < t.size → t.par 0 (-1) c < v → rd out (c : Int) = t.par 0 (-1) c) →
    Ev (fun k => spec_l01Parents.l0 k out (v : Int) d) (Tr.parentsL t) := by
  have hle := h.le
  have hlen := h.len
  intro m
  induction m with
  | zero =>
    intro v out hv ho hi
    refine Ev_succ ?_
    simp only [spec_l01Parents.l0, l01N_eq]
    refine evsome (evneg (by omega) (evnow ?_))
    refine Tr.each_eq ho (fun c hc => hi c hc ?_)
    have := (h.par_lt hc).2; omega
  | succ m ih =>
    intro v out hv ho hi
    refine Ev_succ ?_
    simp only [spec_l01Parents.l0, l01N_eq]
    obtain ⟨n, hp⟩ := h.node (v := v) (by omega)
    refine evsome (evpos (by omega) (Ev.bind (ev_l01Children (by omega) hp) ?_))
    have hk : ∀ c ∈ (t.sub v).roots (v + 1), 0 ≤ c ∧ c < out.length := fun c hc => by have := h.kid_range (v := v) (by omega) hc; omega
    refine ev_l01Parents_l1 d v (by omega) _ _ [] out ?_ hk ?_
    · have := Tr.F.len_le (t.sub v)
      have := h.fits (v := v) (by omega)
      rw [List.nil_append, Tr.F.roots_len]; omega
    · refine ih (v + 1) _ (by omega) (by rw [Tr.setAll_len]; exact ho) (fun c hc hpc => ?_)
      rw [Tr.setAll_rd v _ _ _ (fun x hx => (hk x hx).1) (by omega)]
      by_cases e : (c : Int) ∈ (t.sub v).roots (v + 1)
      · rw [if_pos e]; exact ((h.kids (by omega) hc).1 e).symm
      · rw [if_neg e]
        refine hi c hc ?_
        have : ¬ t.par 0 (-1) c = v := fun e' => e ((h.kids (by omega) hc).2 e')
        omega
theorem ev_l01Parents {d : List Int} {t : Tr.F} (h : Tr.Tree d t) : Ev (fun k => spec_l01Parents.f k d) (Tr.parentsL t) := by
  have hle := h.le
  have hlen := h.len
  have hpos := h.pos
  unfold spec_l01Parents.f
  rw [l01N_eq]
  refine evsome (evpos (by omega) (evpos (by omega) (evsome (evpos (by simp; omega) ?_))))
  refine ev_l01Parents_l0 h t.size 0 _ (by omega) (by simp; omega) (fun c hc hp => ?_)
  have e : c = 0 := by
    by_cases e : c = 0
    · exact e
    · have := h.par_pos (c := c) (by omega) hc; omega
  subst e
  rw [h.par_zero]
  have := Tr.rd_set (l := List.replicate (d.length : Int).toNat 0) (c := 0) (x := -1) (i := 0) (by simp; omega) (by omega)
  simpa using this
theorem ev_sizesOf_l0 {d : List Int} {t : Tr.F} (h : Tr.Tree d t) : ∀ (m v : Nat), v + m = t.size →
    Ev (fun k => impl_sizesOf.l0 k d (Tr.each v (fun v => ((1 + (t.sub v).size : Nat) : Int))) (t.size : Int) (v : Int)) (Tr.sizesL t) := by
  have hle := h.le
  have hlen := h.len
  intro m
  induction m with
  | zero =>
    intro v hv
    refine Ev_succ ?_
    simp only [impl_sizesOf.l0]
    refine evneg (by omega) (evnow ?_)
    have : v = t.size := by omega
    rw [this]; rfl
  | succ m ih =>
    intro v hv
    refine Ev_succ ?_
    simp only [impl_sizesOf.l0]
    obtain ⟨n, hp⟩ := h.node (v := v) (by omega)
    have hf := h.fits (v := v) (by omega)
    refine evpos (by omega) (Ev.bind (ev_endOf (by omega) hp) (evpos (by rw [Tr.each_len]; omega) ?_))
    have e : wrap64 ((v : Int) + 1) = ((v + 1 : Nat) : Int) := by rw [Tr.wrap_id (by omega) (by omega)]; omega
    have e2 : wrap64 (((v + 1 + (t.sub v).size : Nat) : Int) - v) = ((1 + (t.sub v).size : Nat) : Int) := by rw [Tr.wrap_id (by omega) (by omega)]; omega
    rw [e, e2]
    have := ih (v + 1) (by omega)
    rw [Tr.each_succ] at this
    exact this
theorem ev_sizesOf {d : List Int} {t : Tr.F} (h : Tr.Tree d t) : Ev (fun k => impl_sizesOf.f k d) (Tr.sizesL t) := by
  unfold impl_sizesOf.f
  have := ev_sizesOf_l0 h t.size 0 (by omega)
  rw [h.len]
  exact this
theorem ev_l08Heavy_l1 {d : List Int} (hd : d.length ≤ 1000) (v : Nat) (hv : v ≤ 1000) (out : List Int) (ho : out.length ≤ 1000) (r : List Int) : ∀ (g : Tr.F) (p : Nat) (pre : List Int) (cur s : Int), Tr.Pl d p g → pre.length + g.len ≤ 1000 →
    Ev (fun k => spec_l08Heavy.l0 k (out ++ [g.best p cur s]) ((v + 1 : Nat) : Int) d) r → Ev (fun k => spec_l08Heavy.l1 k out (v : Int) (pre ++ g.roots p) cur s (pre.length : Int) d) r := by
  intro g
  induction g with
  | nil =>
    intro p pre cur s hp hb h
    refine Ev_succ ?_
    simp only [spec_l08Heavy.l1]
    refine evneg (by simp [Tr.F.roots]) (evpos (by omega) ?_)
    have e : wrap64 ((v : Int) + 1) = ((v + 1 : Nat) : Int) := by rw [Tr.wrap_id (by omega) (by omega)]; omega
    rw [e]; exact h
  | cons b n hb hn =>
    intro p pre cur s hp hb h
    have hle := hp.le
    simp only [Tr.F.size, Tr.F.len] at hle hb
    rw [Tr.F.roots]
    refine Ev_succ ?_
    simp only [spec_l08Heavy.l1]
    have e : rd (pre ++ (p : Int) :: n.roots (p + 1 + b.size)) (pre.length : Int) = p := by rw [Tr.rd_app0]; exact Tr.rd_cons0 _ _
    have e3 : wrap64 ((pre.length : Int) + 1) = ((pre ++ [(p : Int)]).length : Int) := by rw [Tr.wrap_id (by omega) (by omega)]; simp
    have e2 : wrap64 (((p + 1 + b.size : Nat) : Int) - p) = ((1 + b.size : Nat) : Int) := by rw [Tr.wrap_id (by omega) (by omega)]; omega
    refine evpos (by simp; omega) (evpos (by omega) ?_)
    rw [e]
    refine Ev.bind (ev_l01End hd hp) ?_
    rw [e2, e3]
    have e5 : pre ++ (p : Int) :: n.roots (p + 1 + b.size) = (pre ++ [(p : Int)]) ++ n.roots (p + 1 + b.size) := by simp
    rw [e5]
    by_cases hs : s < ((1 + b.size : Nat) : Int)
    · refine evpos hs (hn _ _ _ _ hp.next (by simp; omega) ?_)
      rw [Tr.F.best, if_pos hs] at h
      exact h
    · refine evneg hs (hn _ _ _ _ hp.next (by simp; omega) ?_)
      rw [Tr.F.best, if_neg hs] at h
      exact h
theorem ev_l08Heavy_l0 {d : List Int} {t : Tr.F} (h : Tr.Tree d t) : ∀ (m v : Nat), v + m = t.size →
    Ev (fun k => spec_l08Heavy.l0 k (Tr.each v (fun v => (t.sub v).best (v + 1) (-1) 0)) (v : Int) d) (Tr.heavyL t) := by
  have hle := h.le
  have hlen := h.len
  intro m
  induction m with
  | zero =>
    intro v hv
    refine Ev_succ ?_
    simp only [spec_l08Heavy.l0, l01N_eq]
    refine evsome (evneg (by omega) (evnow ?_))
    have : v = t.size := by omega
    rw [this]; rfl
  | succ m ih =>
    intro v hv
    refine Ev_succ ?_
    simp only [spec_l08Heavy.l0, l01N_eq]
    obtain ⟨n, hp⟩ := h.node (v := v) (by omega)
    have hf := h.fits (v := v) (by omega)
    refine evsome (evpos (by omega) (Ev.bind (ev_l01Children (by omega) hp) ?_))
    refine ev_l08Heavy_l1 (by omega) v (by omega) _ (by rw [Tr.each_len]; omega) _ (t.sub v) (v + 1) [] _ _ hp.below (by have := Tr.F.len_le (t.sub v); simp; omega) ?_
    rw [← Tr.each_succ]
    exact ih (v + 1) (by omega)
theorem ev_l08Heavy {d : List Int} {t : Tr.F} (h : Tr.Tree d t) : Ev (fun k => spec_l08Heavy.f k d) (Tr.heavyL t) := by
  unfold spec_l08Heavy.f
  exact ev_l08Heavy_l0 h t.size 0 (by omega)
theorem ev_heavyChildren_l1 {d : List Int} {t : Tr.F} (h : Tr.Tree d t) (v : Nat) (hv : v ≤ 1000) (out : List Int) (ho : out.length ≤ 1000) (r : List Int) : ∀ (g : Tr.F) (p : Nat) (pre : List Int) (cur s N : Int), Tr.Pl d p g → ((pre.length + g.len : Nat) : Int) = N → N ≤ 1000 →
    (cur = -1 ∧ s = 0 ∨ 0 ≤ cur ∧ cur < t.size ∧ rd (Tr.sizesL t) cur = s) →
    Ev (fun k => impl_heavyChildren.l0 k d (Tr.sizesL t) (out ++ [g.best p cur s]) (t.size : Int) ((v + 1 : Nat) : Int)) r → Ev (fun k => impl_heavyChildren.l1 k d (Tr.sizesL t) out cur (t.size : Int) (v : Int) (pre ++ g.roots p) N (pre.length : Int)) r := by
  have hle := h.le
  have hlen := h.len
  intro g
  induction g with
  | nil =>
    intro p pre cur s N hp hN hb _ h
    refine Ev_succ ?_
    simp only [impl_heavyChildren.l1]
    simp only [Tr.F.len] at hN
    refine evneg (by omega) (evpos (by omega) ?_)
    have e : wrap64 ((v : Int) + 1) = ((v + 1 : Nat) : Int) := by rw [Tr.wrap_id (by omega) (by omega)]; omega
    rw [e]; exact h
  | cons b n hb hn =>
    intro p pre cur s N hp hN hb hc hr
    have hple := hp.le
    simp only [Tr.F.size, Tr.F.len] at hple hN
    rw [Tr.F.roots]
    refine Ev_succ ?_
    simp only [impl_heavyChildren.l1]
    have e : rd (pre ++ (p : Int) :: n.roots (p + 1 + b.size)) (pre.length : Int) = p := by rw [Tr.rd_app0]; exact Tr.rd_cons0 _ _
    have e3 : wrap64 ((pre.length : Int) + 1) = ((pre ++ [(p : Int)]).length : Int) := by rw [Tr.wrap_id (by omega) (by omega)]; simp
    have e5 : pre ++ (p : Int) :: n.roots (p + 1 + b.size) = (pre ++ [(p : Int)]) ++ n.roots (p + 1 + b.size) := by simp
    have hsp : rd (Tr.sizesL t) (p : Int) = ((1 + b.size : Nat) : Int) := by
      rw [Tr.sizesL, Tr.each_rd (by omega)]
      obtain ⟨m, hm⟩ := h.node (v := p) (by omega)
      rw [Tr.Pl.uniq1 hm hp]
    have hsl : (Tr.sizesL t).length = t.size := Tr.each_len _ _
    refine evpos (by omega) (evpos (by omega) (evpos (by simp; omega) ?_))
    rw [e, e3, e5, hsp]
    have go : ∀ cur s : Int, (cur = -1 ∧ s = 0 ∨ 0 ≤ cur ∧ cur < t.size ∧ rd (Tr.sizesL t) cur = s) → Ev (fun k => impl_heavyChildren.l0 k d (Tr.sizesL t) (out ++ [n.best (p + 1 + b.size) cur s]) (t.size : Int) ((v + 1 : Nat) : Int)) r →
        Ev (fun k => impl_heavyChildren.l1 k d (Tr.sizesL t) out cur (t.size : Int) (v : Int) (pre ++ [(p : Int)] ++ n.roots (p + 1 + b.size)) N ((pre ++ [(p : Int)]).length : Int)) r :=
      fun cur s hc hr => hn (p + 1 + b.size) (pre ++ [(p : Int)]) cur s N hp.next (by simp only [List.length_append, List.length_cons, List.length_nil]; omega) hb hc hr
    rcases hc with ⟨rfl, rfl⟩ | ⟨hc0, hc1, hc2⟩
    · refine evpos (by omega) (go _ ((1 + b.size : Nat) : Int) (.inr ⟨by omega, by omega, hsp⟩) ?_)
      rw [Tr.F.best, if_pos (by omega)] at hr
      exact hr
    · refine evneg (by omega) (evpos (by omega) (evpos (by rw [hsl]; omega) (evpos (by omega) (evpos (by rw [hsl]; omega) ?_))))
      rw [hc2]
      by_cases hs : s < ((1 + b.size : Nat) : Int)
      · refine evpos hs (go _ ((1 + b.size : Nat) : Int) (.inr ⟨by omega, by omega, hsp⟩) ?_)
        rw [Tr.F.best, if_pos hs] at hr
        exact hr
      · refine evneg hs (go _ s (.inr ⟨hc0, hc1, hc2⟩) ?_)
        rw [Tr.F.best, if_neg hs] at hr
        exact hr
theorem ev_heavyChildren_l0 {d : List Int} {t : Tr.F} (h : Tr.Tree d t) : ∀ (m v : Nat), v + m = t.size →
    Ev (fun k => impl_heavyChildren.l0 k d (Tr.sizesL t) (Tr.each v (fun v => (t.sub v).best (v + 1) (-1) 0)) (t.size : Int) (v : Int)) (Tr.heavyL t) := by
  have hle := h.le
  have hlen := h.len
  intro m
  induction m with
  | zero =>
    intro v hv
    refine Ev_succ ?_
    simp only [impl_heavyChildren.l0]
    refine evneg (by omega) (evnow ?_)
    have : v = t.size := by omega
    rw [this]; rfl
  | succ m ih =>
    intro v hv
    refine Ev_succ ?_
    simp only [impl_heavyChildren.l0]
    obtain ⟨n, hp⟩ := h.node (v := v) (by omega)
    have hf := h.fits (v := v) (by omega)
    have hl := Tr.F.len_le (t.sub v)
    refine evpos (by omega) (Ev.bind (ev_kidsOf (by omega) hp) ?_)
    refine ev_heavyChildren_l1 h v (by omega) _ (by rw [Tr.each_len]; omega) _ (t.sub v) (v + 1) [] (-1) 0 _ hp.below (by rw [Tr.F.roots_len]; simp) (by rw [Tr.F.roots_len]; omega) (.inl ⟨rfl, rfl⟩) ?_
    rw [← Tr.each_succ]
    exact ih (v + 1) (by omega)
theorem ev_heavyChildren {d : List Int} {t : Tr.F} (h : Tr.Tree d t) : Ev (fun k => impl_heavyChildren.f k d) (Tr.heavyL t) := by
  unfold impl_heavyChildren.f
  refine Ev.bind (ev_sizesOf h) ?_
  rw [h.len]
  exact ev_heavyChildren_l0 h t.size 0 (by omega)
theorem ev_Index_l0 (x : Int) : ∀ (l pre : List Int) (N : Int), N = ((pre ++ l).length : Int) → N ≤ 100000000 → Ev (fun k => slices_Index_int64_int64.l0 k (pre ++ l) x N (pre.length : Int)) (Tr.idx x l pre.length) := by
  intro l
  induction l with
  | nil =>
    intro pre N hN hb
    refine Ev_succ ?_
    simp only [slices_Index_int64_int64.l0]
    simp only [List.length_append, List.length_nil] at hN
    exact evneg (by omega) (evnow rfl)
  | cons y l ih =>
    intro pre N hN hb
    have hN' := hN
    simp only [List.length_append, List.length_cons] at hN
    refine Ev_succ ?_
    simp only [slices_Index_int64_int64.l0]
    rw [Tr.rd_app0, Tr.rd_cons0]
    refine evpos (by omega) (evpos (by omega) (evpos (by simp; omega) ?_))
    unfold Tr.idx
    by_cases h : x = y
    · rw [if_pos h]; exact evpos h (Ev.now _)
    · rw [if_neg h]
      refine evneg h ?_
      rw [Tr.wrap_succ (by omega)]
      have := ih (pre ++ [y]) N (by rw [hN']; simp) hb
      simpa using this
theorem ev_Index (l : List Int) (x : Int) (h : l.length ≤ 100000000) : Ev (fun k => slices_Index_int64_int64.f k l x) (Tr.idx x l 0) := by
  unfold slices_Index_int64_int64.f
  exact ev_Index_l0 x l [] l.length (by simp) (by omega)
theorem ev_Contains (l : List Int) (x : Int) (h : l.length ≤ 100000000) : Ev (fun k => slices_Contains_int64_int64.f k l x) (decide (x ∈ l)) := by
  unfold slices_Contains_int64_int64.f
  refine Ev.bind (ev_Index l x h) (evnow ?_)
  have := Tr.idx_mem x l 0
  by_cases hm : x ∈ l
  · rw [decide_eq_true hm, decide_eq_true (this.2 hm)]
  · rw [decide_eq_false hm, decide_eq_false (fun h => hm (this.1 h))]
theorem deg_range {d : List Int} {t : Tr.F} (h : Tr.Tree d t) {v : Nat} (hv : v < t.size) : 0 ≤ rd d (v : Int) ∧ rd d (v : Int) ≤ 24 := by
  have h1 := h.deg hv
  have h2 := h.fits hv
  have h3 := Tr.F.len_le (t.sub v)
  have h4 := h.few
  omega
def takeOutL (d : List Int) (t : Tr.F) (v : Nat) : List Int := (d.take v ++ d.drop (v + 1)).set (t.par 0 (-1) v).toNat (rd d (t.par 0 (-1) v) + rd d (v : Int) - 1)
theorem rd_take {d : List Int} {v p : Nat} (h : p < v) (hv : v ≤ d.length) : rd (d.take v) (p : Int) = rd d (p : Int) := by
  have e : rd d (p : Int) = rd (d.take v ++ d.drop v) (p : Int) := by rw [List.take_append_drop]
  rw [e, Tr.rd_left _ _ _ (by omega) (by simp; omega)]
theorem ev_eqSS_l0 (xs : List (List Int)) (hl : xs.length ≤ 1000) (hx : ∀ x ∈ xs, x.length ≤ 1000) : ∀ (n i : Nat), i + n = xs.length → Ev (fun k => laws_eqInt64SS.l0 k xs xs (i : Int)) true := by
  intro n
  induction n with
  | zero =>
    intro i hi
    refine Ev_succ ?_
    simp only [laws_eqInt64SS.l0]
    exact evneg (by omega) (Ev.now _)
  | succ n ih =>
    intro i hi
    have hil : i < xs.length := by omega
    have hr : (rd_L1 xs (i : Int)).length ≤ 1000 := by
      unfold rd_L1
      rw [Int.toNat_natCast, List.getD_eq_getElem?_getD, List.getElem?_eq_getElem hil]
      exact hx _ (List.getElem_mem hil)
    refine Ev_succ ?_
    simp only [laws_eqInt64SS.l0]
    rw [Tr.wrap_succ (by omega)]
    exact evpos (by omega) (evpos (by omega) (evpos (by omega) (Ev.bind (ev_eqInt64S _ _ (by omega) (by omega)) (evpos (by simp) (ih (i + 1) (by omega))))))
theorem ev_eqInt64SS (xs : List (List Int)) (hl : xs.length ≤ 1000) (hx : ∀ x ∈ xs, x.length ≤ 1000) : Ev (fun k => laws_eqInt64SS.f k xs xs) true := by
  unfold laws_eqInt64SS.f
  exact evpos rfl (ev_eqSS_l0 xs hl hx xs.length 0 (by omega))
def upS : Int → List (List Int) → List (List Int)
  | _, [] => []
  | a, x :: l => up a x.length :: upS (a + x.length) l
theorem ev_markSS_l0 : ∀ (l pre : List (List Int)) (a : Int), 0 ≤ a → (pre ++ l).length ≤ 1000 → a + Tr.rsum l ≤ 1000000000 →
    Ev (fun k => laws_markInt64SS.l0 k (pre ++ l) a (pre.length : Int)) (a + Tr.rsum l, pre ++ upS a l) := by
  intro l
  induction l with
  | nil =>
    intro pre a h0 hl hs
    refine Ev_succ ?_
    simp only [laws_markInt64SS.l0]
    exact evneg (by simp) (evnow (by simp [Tr.rsum, upS]))
  | cons x l ih =>
    intro pre a h0 hl hs
    have hl' := hl
    simp only [List.length_append, List.length_cons] at hl
    simp only [Tr.rsum] at hs
    have e1 : (pre ++ x :: l).getD ((pre.length : Int)).toNat [] = x := by simp
    have e2 : ∀ y : List Int, (pre ++ x :: l).set ((pre.length : Int)).toNat y = (pre ++ [y]) ++ l := by intro y; simp
    have e3 : wrap64 ((pre.length : Int) + 1) = ((pre.length + 1 : Nat) : Int) := Tr.wrap_succ (by omega)
    refine Ev_succ ?_
    simp only [laws_markInt64SS.l0]
    rw [e1, e3]
    refine evpos (by simp; omega) (evpos (by omega) (Ev.bind (ev_markInt64S x a h0 (by omega)) ?_))
    rw [e2]
    have := ih (pre ++ [up a x.length]) (a + x.length) (by omega) (by simpa using hl') (by omega)
    rw [List.length_append, List.length_singleton] at this
    have e4 : a + (x.length : Int) + (Tr.rsum l : Int) = a + ((x.length + Tr.rsum l : Nat) : Int) := by omega
    rw [e4] at this
    simpa [upS, Tr.rsum] using this
theorem ev_markInt64SS (l : List (List Int)) (a : Int) (h0 : 0 ≤ a) (hl : l.length ≤ 1000) (hs : a + Tr.rsum l ≤ 1000000000) : Ev (fun k => laws_markInt64SS.f k l a) (a + Tr.rsum l, upS a l) := by
  unfold laws_markInt64SS.f
  have := ev_markSS_l0 l [] a h0 (by simpa using hl) hs
  simpa using this
theorem ev_heldSS_l0 : ∀ (l pre : List (List Int)) (a : Int), 0 ≤ a → (pre ++ l).length ≤ 1000 → a + Tr.rsum l ≤ 1000000000 →
    Ev (fun k => laws_heldInt64SS.l0 k (pre ++ upS a l) a (pre.length : Int)) (a + Tr.rsum l) := by
  intro l
  induction l with
  | nil =>
    intro pre a h0 hl hs
    refine Ev_succ ?_
    simp only [laws_heldInt64SS.l0]
    exact evneg (by simp [upS]) (evnow (by simp [Tr.rsum]))
  | cons x l ih =>
    intro pre a h0 hl hs
    have hl' := hl
    simp only [List.length_append, List.length_cons] at hl
    simp only [Tr.rsum] at hs
    have e1 : rd_L1 (pre ++ upS a (x :: l)) (pre.length : Int) = up a x.length := by unfold rd_L1 upS; simp
    have e3 : wrap64 ((pre.length : Int) + 1) = ((pre.length + 1 : Nat) : Int) := Tr.wrap_succ (by omega)
    refine Ev_succ ?_
    simp only [laws_heldInt64SS.l0]
    rw [e1, e3]
    refine evpos (by simp [upS]; omega) (evpos (by omega) (Ev.bind (ev_heldInt64S x.length a h0 (by omega)) (evneg (by omega) ?_)))
    have := ih (pre ++ [up a x.length]) (a + x.length) (by omega) (by simpa using hl') (by omega)
    rw [List.length_append, List.length_singleton] at this
    have e4 : a + (x.length : Int) + (Tr.rsum l : Int) = a + ((x.length + Tr.rsum l : Nat) : Int) := by omega
    rw [e4] at this
    simpa [upS, Tr.rsum] using this
theorem ev_heldInt64SS (l : List (List Int)) (a : Int) (h0 : 0 ≤ a) (hl : l.length ≤ 1000) (hs : a + Tr.rsum l ≤ 1000000000) : Ev (fun k => laws_heldInt64SS.f k (upS a l) a) (a + Tr.rsum l) := by
  unfold laws_heldInt64SS.f
  have := ev_heldSS_l0 l [] a h0 (by simpa using hl) hs
  simpa using this
theorem ev_HeavyPaths_s1 {d : List Int} {t : Tr.F} (h : Tr.Tree d t) (P : List Int) (out : List (List Int)) (hout : out.length ≤ 1000) (v : Nat) (hv : v < t.size) {r : List (List Int) × Int} : ∀ (m : Nat) (acc : List Int) (w : Int), w < t.size → w < 0 ∨ (t.size : Int) < m + w → acc.length + m ≤ 1000 →
    Ev (fun k => spec_HeavyPaths.l0 k P (Tr.heavyL t) (out ++ [acc ++ Tr.hpath (Tr.heavyL t) m w]) ((v + 1 : Nat) : Int) d) r → Ev (fun k => spec_HeavyPaths.l1 k P (Tr.heavyL t) out (v : Int) acc w d) r := by
  have hle := h.le
  have hlen := h.len
  have hHl : (Tr.heavyL t).length = t.size := Tr.each_len _ _
  have stop : ∀ (m : Nat) (acc : List Int) (w : Int), w < 0 → Ev (fun k => spec_HeavyPaths.l0 k P (Tr.heavyL t) (out ++ [acc ++ Tr.hpath (Tr.heavyL t) m w]) ((v + 1 : Nat) : Int) d) r → Ev (fun k => spec_HeavyPaths.l1 k P (Tr.heavyL t) out (v : Int) acc w d) r := by
    intro m acc w hw hr
    rw [Tr.hpath_neg _ _ hw, List.append_nil] at hr
    refine Ev_succ ?_
    simp only [spec_HeavyPaths.l1]
    rw [Tr.wrap_succ (by omega)]
    exact evneg (by omega) (evpos (by omega) hr)
  intro m
  induction m with
  | zero =>
    intro acc w h2 h3 h4 hr
    exact stop 0 acc w (by omega) hr
  | succ m ih =>
    intro acc w h2 h3 h4 hr
    by_cases hw : w < 0
    · exact stop (m + 1) acc w hw hr
    · unfold Tr.hpath at hr
      rw [if_neg hw] at hr
      obtain ⟨u, rfl⟩ := Int.eq_ofNat_of_zero_le (by omega : 0 ≤ w)
      have hq := Tr.heavy_rd h (v := u) (by omega)
      refine Ev_succ ?_
      simp only [spec_HeavyPaths.l1]
      refine evpos (by omega) (evpos (by omega) (evpos (by omega) (evpos (by omega) ?_)))
      exact ih (acc ++ [(u : Int)]) (rd (Tr.heavyL t) (u : Int)) (by omega) (by omega) (by simp; omega) (by simpa using hr)
theorem ev_HeavyPaths_i1 {d : List Int} {t : Tr.F} (h : Tr.Tree d t) (out : List (List Int)) (hout : out.length ≤ 1000) (v : Nat) (hv : v < t.size) {r : List (List Int) × Int} : ∀ (m : Nat) (acc : List Int) (w : Int), w < t.size → w < 0 ∨ (t.size : Int) < m + w → acc.length + m ≤ 1000 →
    Ev (fun k => impl_HeavyPaths.l0 k (Tr.heavyL t) (out ++ [acc ++ Tr.hpath (Tr.heavyL t) m w]) (t.size : Int) ((v + 1 : Nat) : Int)) r → Ev (fun k => impl_HeavyPaths.l1 k (Tr.heavyL t) out acc w (t.size : Int) (v : Int)) r := by
  have hle := h.le
  have hlen := h.len
  have hHl : (Tr.heavyL t).length = t.size := Tr.each_len _ _
  have stop : ∀ (m : Nat) (acc : List Int) (w : Int), w < 0 → Ev (fun k => impl_HeavyPaths.l0 k (Tr.heavyL t) (out ++ [acc ++ Tr.hpath (Tr.heavyL t) m w]) (t.size : Int) ((v + 1 : Nat) : Int)) r → Ev (fun k => impl_HeavyPaths.l1 k (Tr.heavyL t) out acc w (t.size : Int) (v : Int)) r := by
    intro m acc w hw hr
    rw [Tr.hpath_neg _ _ hw, List.append_nil] at hr
    refine Ev_succ ?_
    simp only [impl_HeavyPaths.l1]
    rw [Tr.wrap_succ (by omega)]
    exact evneg (by omega) (evpos (by omega) hr)
  intro m
  induction m with
  | zero =>
    intro acc w h2 h3 h4 hr
    exact stop 0 acc w (by omega) hr
  | succ m ih =>
    intro acc w h2 h3 h4 hr
    by_cases hw : w < 0
    · exact stop (m + 1) acc w hw hr
    · unfold Tr.hpath at hr
      rw [if_neg hw] at hr
      obtain ⟨u, rfl⟩ := Int.eq_ofNat_of_zero_le (by omega : 0 ≤ w)
      have hq := Tr.heavy_rd h (v := u) (by omega)
      refine Ev_succ ?_
      simp only [impl_HeavyPaths.l1]
      refine evpos (by omega) (evpos (by omega) (evpos (by omega) (evpos (by omega) ?_)))
      exact ih (acc ++ [(u : Int)]) (rd (Tr.heavyL t) (u : Int)) (by omega) (by omega) (by simp; omega) (by simpa using hr)
theorem light_eq {d : List Int} {t : Tr.F} (h : Tr.Tree d t) {v : Nat} (hv : v < t.size) : spec_l08Light.f (Tr.parentsL t) (Tr.heavyL t) (v : Int) = some (decide (¬ (v : Int) ∈ Tr.heavyL t)) := by
  have hHl : (Tr.heavyL t).length = t.size := Tr.each_len _ _
  have hPl : (Tr.parentsL t).length = t.size := Tr.each_len _ _
  unfold spec_l08Light.f
  by_cases h0 : v = 0
  · subst h0
    have hz := Tr.heavy_zero h
    rw [if_pos (by omega), decide_eq_true (by simpa using hz)]
  · have hp := h.par_pos (by omega : 1 ≤ v) hv
    have e : rd (Tr.parentsL t) (v : Int) = t.par 0 (-1) v := Tr.each_rd hv
    have hi := Tr.heavy_iff h (by omega : 1 ≤ v) hv
    rw [if_neg (by omega), if_pos (by omega), if_pos (by omega), e, if_pos (by omega), if_pos (by omega)]
    congr 1
    by_cases hm : (v : Int) ∈ Tr.heavyL t
    · rw [decide_eq_false (by simpa using hm), hi.1 hm]; simp
    · rw [decide_eq_true hm]
      have : rd (Tr.heavyL t) (t.par 0 (-1) v) ≠ (v : Int) := fun e => hm (hi.2 e)
      simpa using this
theorem ev_HeavyPaths_l0 {d : List Int} {t : Tr.F} (h : Tr.Tree d t) : ∀ (m v : Nat) (out : List (List Int)), v + m = t.size → out.length ≤ v →
    Ev (fun k => spec_HeavyPaths.l0 k (Tr.parentsL t) (Tr.heavyL t) out (v : Int) d) (Tr.hpaths t m v out, 0) ∧ Ev (fun k => impl_HeavyPaths.l0 k (Tr.heavyL t) out (t.size : Int) (v : Int)) (Tr.hpaths t m v out, 0) := by
  have hle := h.le
  have hlen := h.len
  have hHl : (Tr.heavyL t).length = t.size := Tr.each_len _ _
  intro m
  induction m with
  | zero =>
    intro v out hv ho
    refine ⟨Ev_succ ?_, Ev_succ ?_⟩
    · simp only [spec_HeavyPaths.l0, l01N_eq]
      exact evsome (evneg (by omega) (Ev.now _))
    · simp only [impl_HeavyPaths.l0]
      exact evneg (by omega) (Ev.now _)
  | succ m ih =>
    intro v out hv ho
    have e3 : wrap64 ((v : Int) + 1) = ((v + 1 : Nat) : Int) := Tr.wrap_succ (by omega)
    by_cases hm : (v : Int) ∈ Tr.heavyL t
    · obtain ⟨h1, h2⟩ := ih (v + 1) out (by omega) (by omega)
      unfold Tr.hpaths
      rw [if_pos hm]
      refine ⟨Ev_succ ?_, Ev_succ ?_⟩
      · simp only [spec_HeavyPaths.l0, l01N_eq]
        refine evsome (evpos (by omega) ?_)
        rw [light_eq h (by omega), e3]
        exact evsome (evneg (by simpa using hm) h1)
      · simp only [impl_HeavyPaths.l0]
        rw [e3]
        exact evpos (by omega) (Ev.bind (ev_Contains _ _ (by omega)) (evpos (decide_eq_true hm) h2))
    · obtain ⟨h1, h2⟩ := ih (v + 1) (out ++ [Tr.hpath (Tr.heavyL t) (t.size + 1) (v : Int)]) (by omega) (by simp; omega)
      unfold Tr.hpaths
      rw [if_neg hm]
      refine ⟨Ev_succ ?_, Ev_succ ?_⟩
      · simp only [spec_HeavyPaths.l0, l01N_eq]
        refine evsome (evpos (by omega) ?_)
        rw [light_eq h (by omega)]
        refine evsome (evpos (by simpa using hm) ?_)
        exact ev_HeavyPaths_s1 h _ out (by omega) v (by omega) (t.size + 1) [] (v : Int) (by omega) (by omega) (by simp; omega) (by simpa using h1)
      · simp only [impl_HeavyPaths.l0]
        refine evpos (by omega) (Ev.bind (ev_Contains _ _ (by omega)) (evneg (by simpa using hm) ?_))
        exact ev_HeavyPaths_i1 h out (by omega) v (by omega) (t.size + 1) [] (v : Int) (by omega) (by omega) (by simp; omega) (by simpa using h2)
theorem ev_HeavyPaths (d : List Int) : ∃ r : List (List Int) × Int, Ev (fun k => spec_HeavyPaths.f k d) r ∧ Ev (fun k => impl_HeavyPaths.f k d) r ∧ r.1.length ≤ 24 ∧ ∀ x ∈ r.1, x.length ≤ 25 := by
  rcases Tr.isT_cases d with h | ⟨t, h⟩
  · refine ⟨([], 1), ?_, ?_, by simp, by simp⟩
    · unfold spec_HeavyPaths.f; exact Ev.bind (ev_l01Is d) (evneg (by simp [h]) (Ev.now _))
    · unfold impl_HeavyPaths.f; exact Ev.bind (ev_IsTree d) (evneg (by simp [h]) (Ev.now _))
  have hle := h.le
  have hlen := h.len
  have hHl : (Tr.heavyL t).length = t.size := Tr.each_len _ _
  obtain ⟨h1, h2⟩ := ev_HeavyPaths_l0 h t.size 0 [] (by omega) (by simp)
  refine ⟨(Tr.hpaths t t.size 0 [], 0), ?_, ?_, ?_, ?_⟩
  · unfold spec_HeavyPaths.f
    exact Ev.bind (ev_l01Is d) (evpos h.isT (Ev.bind (ev_l01Parents h) (Ev.bind (ev_l08Heavy h) h1)))
  · unfold impl_HeavyPaths.f
    refine Ev.bind (ev_IsTree d) (evpos h.isT (Ev.bind (ev_heavyChildren h) ?_))
    rw [hHl]
    exact h2
  · have := Tr.hpaths_len t t.size 0 []
    simp at this
    show (Tr.hpaths t t.size 0 []).length ≤ 24
    omega
  · intro x hx
    have := Tr.hpaths_rows t t.size 0 [] (by simp) x hx
    omega
theorem pure_FnExactHeavyPaths (l0 : List Int) (hl0 : l0.length ≤ maxLen) (_ : ∀ x ∈ l0, (Lit.int .i64 x).wf = true) : ∃ k, laws_FnExactHeavyPaths.f k l0 = some true := by
  unfold maxLen at hl0
  refine Ev.rounds ?_
  unfold laws_FnExactHeavyPaths.f
  rw [szTree_eq l0 (1048576) (by omega) (by omega) (by omega)]
  refine evsome ?_
  by_cases hs0 : (1048576 : Int) - l0.length < 0
  · rw [if_pos hs0]; exact evpos (by omega) (Ev.now _)
  rw [if_neg hs0]
  refine evneg hs0 ?_
  obtain ⟨r, hq, hi, hb1, hb2⟩ := ev_HeavyPaths l0
  have hrs := Tr.rsum_le r.1 hb2
  have hrs2 : Tr.rsum r.1 ≤ 600 := Nat.le_trans hrs (Nat.le_trans (Nat.mul_le_mul_right 25 hb1) (by decide))
  refine Ev.bind (ev_toTree l0 (by omega)) (Ev.bind hq (Ev.bind hi ?_))
  refine Ev.bind (ev_eqInt64SS r.1 (by omega) (fun x hx => by have := hb2 x hx; omega)) (evpos rfl (evpos rfl ?_))
  refine Ev.bind (ev_eqTree l0 l0 (by omega) (by omega)) (evpos (by simp) ?_)
  refine Ev.bind (ev_markTree l0 1 (by omega) (by omega)) (evneg (by simp only []; omega) ?_)
  refine Ev.bind (ev_markInt64SS r.1 1 (by omega) (by omega) (by omega)) ?_
  refine Ev.bind (ev_heldInt64SS r.1 1 (by omega) (by omega) (by omega)) (evneg (by omega) (evpos rfl (Ev.now _)))
end Go.Proofs.Ytlmaoeahdhbkdaa.QFnExactHeavyPaths
