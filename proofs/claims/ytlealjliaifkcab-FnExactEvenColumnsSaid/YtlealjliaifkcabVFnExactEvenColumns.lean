import Derived.Test.YtlealjliaifkcabQFnExactEvenColumnsx
import Derived.Test.YtlealjliaifkcabTr
import Derived.Test.YtlealjliaifkcabNd
import Derived.Test.YtlealjliaifkcabGr
import Derived.Test.YtlealjliaifkcabIx
namespace Go.Proofs.Ytlealjliaifkcab.QFnExactEvenColumns
open Go.RowKit Go.Proofs.YtlealjliaifkcabW.PrintWords Go.Proofs.YtlealjliaifkcabW.PrintLast Go.Proofs.YtlealjliaifkcabW.PrintMore Go.Proofs.Ytlealjliaifkcab
set_option linter.unusedVariables false
set_option linter.unusedSimpArgs false
theorem Ev_succ {α : Type} {g : Nat → Option α} {r : α} (h : Ev (fun k => g (k + 1)) r) : Ev g r := Ev.step (fun _ => rfl) h
theorem evpos {α : Type} {c : Prop} [Decidable c] {f g : Nat → Option α} {r : α} (h : c) (k : Ev f r) : Ev (fun n => if c then f n else g n) r := by
  simp only [if_pos h]; exact k
theorem evneg {α : Type} {c : Prop} [Decidable c] {f g : Nat → Option α} {r : α} (h : ¬ c) (k : Ev g r) : Ev (fun n => if c then f n else g n) r := by
  simp only [if_neg h]; exact k
theorem evsome {α β : Type} {a : α} {f : Nat → α → Option β} {r : β} (k : Ev (fun n => f n a) r) : Ev (fun n => (some a).bind (f n)) r := k
theorem evnow {α : Type} {a r : α} (h : a = r) : Ev (fun _ => some a) r := by subst h; exact Ev.now _
theorem ev_eq_l0 (xs ys : List Int) (hl : xs.length = ys.length) (hb : xs.length ≤ 1152921504606846976) : ∀ (n i : Nat), i + n = xs.length →
    Ev (fun k => laws_eqInt64S.l0 k xs ys (i : Nat)) (decide (xs.drop i = ys.drop i)) := by
  intro n
  induction n with
  | zero =>
    intro i hi
    refine Ev_succ ?_
    simp only [laws_eqInt64S.l0]
    refine evneg (by omega) (evnow ?_)
    rw [List.drop_of_length_le (by omega), List.drop_of_length_le (by omega)]; rfl
  | succ n ih =>
    intro i hi
    refine Ev_succ ?_
    simp only [laws_eqInt64S.l0]
    refine evpos (by omega) (evpos (by omega) (evpos (by omega) ?_))
    rw [Tr.rd_getElem (by omega : i < xs.length), Tr.rd_getElem (by omega : i < ys.length)]
    have e : wrap64 ((i : Int) + 1) = ((i + 1 : Nat) : Int) := by rw [Tr.wrap_id (by omega) (by omega)]; omega
    rw [e]
    have e3 : (xs.drop i = ys.drop i) = (xs[i] = ys[i] ∧ xs.drop (i + 1) = ys.drop (i + 1)) := by
      rw [List.drop_eq_getElem_cons (by omega : i < xs.length), List.drop_eq_getElem_cons (by omega : i < ys.length)]
      exact List.cons.injEq _ _ _ _
    have e4 : decide (xs.drop i = ys.drop i) = decide (xs[i] = ys[i] ∧ xs.drop (i + 1) = ys.drop (i + 1)) := by simp only [e3]
    rw [e4]
    by_cases h : xs[i] = ys[i]
    · refine evpos h ?_
      have := ih (i + 1) (by omega)
      rw [show decide (xs[i] = ys[i] ∧ xs.drop (i + 1) = ys.drop (i + 1)) = decide (xs.drop (i + 1) = ys.drop (i + 1)) by simp only [h, true_and]]
      exact this
    · refine evneg h (evnow ?_)
      simp only [h, false_and, decide_false]
theorem ev_eqInt64S (xs ys : List Int) (hb : xs.length ≤ 1152921504606846976) (hc : ys.length ≤ 1152921504606846976) : Ev (fun k => laws_eqInt64S.f k xs ys) (decide (xs = ys)) := by
  unfold laws_eqInt64S.f
  by_cases h : xs.length = ys.length
  · refine evpos (by omega) ?_
    have := ev_eq_l0 xs ys h hb xs.length 0 (by omega)
    simpa using this
  · refine evneg (by omega) (evnow ?_)
    rw [eq_comm, decide_eq_false_iff_not]
    intro e; exact h (by rw [e])
theorem ev_eqTree (xs ys : List Int) (hb : xs.length ≤ 1152921504606846976) (hc : ys.length ≤ 1152921504606846976) : Ev (fun k => laws_eqTree.f k xs ys) (decide (xs = ys)) := by
  unfold laws_eqTree.f
  refine Ev.bind (ev_eqInt64S xs ys hb hc) ?_
  by_cases h : xs = ys
  · rw [decide_eq_true h]; exact evpos rfl (Ev.now _)
  · rw [decide_eq_false h]; exact evneg (by simp) (Ev.now _)
theorem szInt64S_eq (xs : List Int) (a : Int) (h0 : 0 ≤ a) (h1 : a ≤ 1048576) (hb : xs.length ≤ 9223372036854775807) : laws_szInt64S.f xs a = some (if a - xs.length < 0 then -1 else a - xs.length) := by
  unfold laws_szInt64S.f
  rw [Tr.wrap_id (by omega) (by omega)]
  split <;> rfl
theorem szTree_eq (xs : List Int) (a : Int) (h0 : 0 ≤ a) (h1 : a ≤ 1048576) (hb : xs.length ≤ 9223372036854775807) : laws_szTree.f xs a = some (if a - xs.length < 0 then -1 else a - xs.length) := by
  unfold laws_szTree.f
  rw [szInt64S_eq xs a h0 h1 hb]
  simp only [Option.bind_some]
  by_cases h : a - xs.length < 0
  · simp only [if_pos h]; rfl
  · simp only [if_neg h]
theorem ev_to_l0 (xs : List Int) (hb : xs.length ≤ 35184372088832) : ∀ (n i : Nat) (ys : List Int), i + n = xs.length → ys.length = xs.length → ys.take i = xs.take i →
    Ev (fun k => laws_toInt64S.l0 k xs ys (i : Nat)) xs := by
  intro n
  induction n with
  | zero =>
    intro i ys hi hy ht
    refine Ev_succ ?_
    simp only [laws_toInt64S.l0]
    refine evneg (by omega) (evnow ?_)
    rwa [List.take_of_length_le (by omega), List.take_of_length_le (by omega)] at ht
  | succ n ih =>
    intro i ys hi hy ht
    refine Ev_succ ?_
    simp only [laws_toInt64S.l0]
    refine evpos (by omega) (evpos (by omega) (evpos (by omega) ?_))
    have e : wrap64 ((i : Int) + 1) = ((i + 1 : Nat) : Int) := by rw [Tr.wrap_id (by omega) (by omega)]; omega
    rw [e, Tr.rd_getElem (by omega : i < xs.length), Int.toNat_natCast]
    refine ih (i + 1) _ (by omega) (by simp [hy]) ?_
    rw [List.take_succ_eq_append_getElem (by simp; omega), List.take_succ_eq_append_getElem (by omega)]
    simp [List.take_set_of_le, ht]
theorem ev_toInt64S (xs : List Int) (hb : xs.length ≤ 35184372088832) : Ev (fun k => laws_toInt64S.f k xs) xs := by
  unfold laws_toInt64S.f
  refine evpos (by omega) (evpos (by omega) ?_)
  have := ev_to_l0 xs hb xs.length 0 (List.replicate xs.length 0) (by omega) (by simp) (by simp)
  simpa using this
theorem ev_toTree (xs : List Int) (hb : xs.length ≤ 35184372088832) : Ev (fun k => laws_toTree.f k xs) xs := by
  unfold laws_toTree.f
  exact Ev.bind (ev_toInt64S xs hb) (Ev.now _)
/-- The numbers m, m + 1, .. -/
def up (m : Int) : Nat → List Int
  | 0 => []
  | n + 1 => m :: up (m + 1) n
theorem up_len (n : Nat) : ∀ m, (up m n).length = n := by
  induction n with
  | zero => intro m; rfl
  | succ n ih => intro m; simp [up, ih]
theorem up_get (n : Nat) : ∀ (m : Int) (i : Nat) (h : i < (up m n).length), (up m n)[i] = m + i := by
  induction n with
  | zero => intro m i h; simp [up] at h
  | succ n ih =>
    intro m i h
    cases i with
    | zero => simp [up]
    | succ i => simp only [up, List.getElem_cons_succ, ih]; omega
theorem ev_mark_l0 (a : Int) (N : Nat) (h0 : 0 ≤ a) (h1 : a + N ≤ 1152921504606846976) : ∀ (n i : Nat) (xs : List Int), i + n = N → xs.length = N → xs.take i = (up a N).take i →
    Ev (fun k => laws_markInt64S.l0 k xs (a + i) (i : Nat)) (a + N, up a N) := by
  intro n
  induction n with
  | zero =>
    intro i xs hi hy ht
    refine Ev_succ ?_
    simp only [laws_markInt64S.l0]
    refine evneg (by omega) (evnow ?_)
    rw [List.take_of_length_le (by omega), List.take_of_length_le (by rw [up_len]; omega)] at ht
    rw [ht]
    have : i = N := by omega
    subst this; rfl
  | succ n ih =>
    intro i xs hi hy ht
    refine Ev_succ ?_
    simp only [laws_markInt64S.l0]
    refine evpos (by omega) (evpos (by omega) ?_)
    have e : wrap64 ((i : Int) + 1) = ((i + 1 : Nat) : Int) := by rw [Tr.wrap_id (by omega) (by omega)]; omega
    have e2 : wrap64 (a + (i : Int) + 1) = a + ((i + 1 : Nat) : Int) := by rw [Tr.wrap_id (by omega) (by omega)]; omega
    rw [e, e2, Int.toNat_natCast]
    refine ih (i + 1) _ (by omega) (by simp [hy]) ?_
    rw [List.take_succ_eq_append_getElem (by simp; omega), List.take_succ_eq_append_getElem (by rw [up_len]; omega), up_get]
    simp [List.take_set_of_le, ht]
theorem ev_markInt64S (xs : List Int) (a : Int) (h0 : 0 ≤ a) (h1 : a + xs.length ≤ 1152921504606846976) : Ev (fun k => laws_markInt64S.f k xs a) (a + xs.length, up a xs.length) := by
  unfold laws_markInt64S.f
  have := ev_mark_l0 a xs.length h0 h1 xs.length 0 xs (by omega) rfl (by simp)
  simpa using this
theorem ev_held_l0 (a : Int) (N : Nat) (h0 : 0 ≤ a) (h1 : a + N ≤ 1152921504606846976) : ∀ (n i : Nat), i + n = N →
    Ev (fun k => laws_heldInt64S.l0 k (up a N) (a + i) (i : Nat)) (a + N) := by
  intro n
  induction n with
  | zero =>
    intro i hi
    refine Ev_succ ?_
    simp only [laws_heldInt64S.l0, up_len]
    refine evneg (by omega) (evnow ?_)
    omega
  | succ n ih =>
    intro i hi
    refine Ev_succ ?_
    simp only [laws_heldInt64S.l0, up_len]
    have e : wrap64 ((i : Int) + 1) = ((i + 1 : Nat) : Int) := by rw [Tr.wrap_id (by omega) (by omega)]; omega
    have e2 : wrap64 (a + (i : Int) + 1) = a + ((i + 1 : Nat) : Int) := by rw [Tr.wrap_id (by omega) (by omega)]; omega
    have e3 : rd (up a N) (i : Int) = a + i := by rw [Tr.rd_getElem (by rw [up_len]; omega), up_get]
    refine evpos (by omega) (evpos (by omega) (evpos e3 ?_))
    rw [e, e2]
    exact ih (i + 1) (by omega)
theorem ev_heldInt64S (N : Nat) (a : Int) (h0 : 0 ≤ a) (h1 : a + N ≤ 1152921504606846976) : Ev (fun k => laws_heldInt64S.f k (up a N) a) (a + N) := by
  unfold laws_heldInt64S.f
  have := ev_held_l0 a N h0 h1 N 0 (by omega)
  simpa using this
theorem ev_markTree (xs : List Int) (a : Int) (h0 : 0 ≤ a) (h1 : a + xs.length ≤ 1152921504606846976) : Ev (fun k => laws_markTree.f k xs a) (a + xs.length, up a xs.length) := by
  unfold laws_markTree.f
  exact Ev.bind (ev_markInt64S xs a h0 h1) (evnow rfl)
theorem ev_isTree_l0 : ∀ (l pre : List Int) (m : Int) (n : Int), n = ((pre ++ l).length : Int) → n ≤ 1000 → 0 ≤ m → m + 24 * l.length ≤ 100000 →
    Ev (fun k => impl_isTree.l0 k m (pre ++ l) n (pre.length : Int)) (Tr.ok l m) := by
  intro l
  induction l with
  | nil =>
    intro pre m n hn hb h0 h1
    refine Ev_succ ?_
    simp only [impl_isTree.l0]
    simp only [List.length_append, List.length_nil] at hn
    refine evneg (by omega) (evnow ?_)
    rfl
  | cons x l ih =>
    intro pre m n hn hb h0 h1
    refine Ev_succ ?_
    simp only [impl_isTree.l0]
    have hn' := hn
    simp only [List.length_append, List.length_cons] at hn h1 ⊢
    refine evpos (by omega) (evpos (by omega) (evpos (by simp; omega) ?_))
    have e : rd (pre ++ x :: l) (pre.length : Int) = x := by rw [Tr.rd_app0]; exact Tr.rd_cons0 _ _
    rw [e]
    by_cases hm : m = 0
    · refine evpos hm (evnow ?_); simp [Tr.ok, hm]
    · refine evneg hm ?_
      by_cases hx : x < 0
      · refine evpos hx (evnow ?_); simp [Tr.ok, hm, Int.not_le.mpr hx]
      · refine evneg hx ?_
        by_cases hy : x ≥ 24
        · refine evpos hy (evnow ?_); simp [Tr.ok, hm, Int.not_lt.mpr hy]
        · refine evneg hy ?_
          have e2 : wrap64 (m + wrap64 (x - 1)) = m - 1 + x := by rw [Tr.wrap_id (x := x - 1) (by omega) (by omega), Tr.wrap_id (by omega) (by omega)]; omega
          have e3 : wrap64 ((pre.length : Int) + 1) = ((pre ++ [x]).length : Int) := by rw [Tr.wrap_id (by omega) (by omega)]; simp
          rw [e2, e3]
          have := ih (pre ++ [x]) (m - 1 + x) n (by simp; omega) hb (by omega) (by omega)
          simp only [List.append_assoc, List.singleton_append] at this
          rw [show Tr.ok (x :: l) m = Tr.ok l (m - 1 + x) by
            have : (m != 0) = true := bne_iff_ne.mpr hm
            have h4 : decide (0 ≤ x) = true := decide_eq_true (by omega)
            have h5 : decide (x < 24) = true := decide_eq_true (by omega)
            simp only [Tr.ok, this, h4, h5, Bool.true_and]]
          exact this
theorem ev_isTree (d : List Int) : Ev (fun k => impl_isTree.f k d) (Tr.isT d) := by
  unfold impl_isTree.f
  by_cases h : (d.length : Int) < 1
  · refine evpos h (Ev_succ ?_)
    simp only [impl_isTree.j0]
    refine evpos (by simp) (evnow ?_)
    simp only [Tr.isT, decide_eq_false (by omega : ¬ 1 ≤ d.length), Bool.false_and]
  · refine evneg h (Ev_succ ?_)
    simp only [impl_isTree.j0]
    by_cases h2 : (d.length : Int) > 24
    · refine evpos (decide_eq_true h2) (evnow ?_)
      simp only [Tr.isT, decide_eq_false (by omega : ¬ d.length ≤ 24), Bool.false_and, Bool.and_false]
    · refine evneg (by simpa using h2) ?_
      have := ev_isTree_l0 d [] 1 d.length (by simp) (by omega) (by omega) (by omega)
      rw [show Tr.isT d = Tr.ok d 1 by simp only [Tr.isT, decide_eq_true (by omega : 1 ≤ d.length), decide_eq_true (by omega : d.length ≤ 24), Bool.true_and]]
      exact this
theorem ev_IsTree (d : List Int) : Ev (fun k => impl_IsTree.f k d) (Tr.isT d) := by
  unfold impl_IsTree.f
  exact Ev.bind (ev_isTree d) (Ev.now _)
theorem l01In_eq (a b c : Int) : spec_l01In.f a b c = some (decide (b ≤ a ∧ a ≤ c)) := by
  unfold spec_l01In.f
  by_cases h : a ≥ b
  · rw [if_pos h]; congr 1; simp; omega
  · rw [if_neg h]; congr 1; symm; simp; omega
theorem l01N_eq (d : List Int) : spec_l01N.f d = some (d.length : Int) := rfl
theorem ev_l01Is_l0 : ∀ (l pre : List Int) (m : Int), (pre ++ l).length ≤ 24 → 0 ≤ m → (m ≥ 1 ∨ True) → m + 25 * l.length ≤ 100000 →
    Ev (fun k => spec_l01Is.l0 k m (pre.length : Int) (pre ++ l)) (Tr.ok25 l m) := by
  intro l
  induction l with
  | nil =>
    intro pre m hb h0 _ h1
    refine Ev_succ ?_
    simp only [spec_l01Is.l0, List.length_append, List.length_nil]
    refine evneg (by omega) (evnow ?_)
    rfl
  | cons x l ih =>
    intro pre m hb h0 _ h1
    refine Ev_succ ?_
    simp only [spec_l01Is.l0]
    simp only [List.length_append, List.length_cons] at h1 hb ⊢
    refine evpos (by omega) ?_
    have e : rd (pre ++ x :: l) (pre.length : Int) = x := by rw [Tr.rd_app0]; exact Tr.rd_cons0 _ _
    rw [e, l01In_eq]
    by_cases hm : m = 0
    · refine evpos hm (evnow ?_); simp [Tr.ok25, hm]
    · refine evneg hm (evpos (by omega) (evsome ?_))
      by_cases hx : 0 ≤ x ∧ x ≤ 24
      · refine evpos (decide_eq_true hx) ?_
        have e2 : wrap64 (wrap64 (m - 1) + x) = m - 1 + x := by rw [Tr.wrap_id (x := m - 1) (by omega) (by omega), Tr.wrap_id (by omega) (by omega)]
        have e3 : wrap64 ((pre.length : Int) + 1) = ((pre ++ [x]).length : Int) := by rw [Tr.wrap_id (by omega) (by omega)]; simp
        rw [e2, e3]
        have := ih (pre ++ [x]) (m - 1 + x) (by simp; omega) (by omega) (.inr trivial) (by omega)
        simp only [List.append_assoc, List.singleton_append] at this
        rw [show Tr.ok25 (x :: l) m = Tr.ok25 l (m - 1 + x) by
          have : (m != 0) = true := bne_iff_ne.mpr hm
          simp only [Tr.ok25, this, decide_eq_true hx, Bool.true_and]]
        exact this
      · refine evneg (by simpa using hx) (evnow ?_)
        simp only [Tr.ok25, decide_eq_false hx, Bool.false_and, Bool.and_false]
theorem ev_l01Is (d : List Int) : Ev (fun k => spec_l01Is.f k d) (Tr.isT d) := by
  unfold spec_l01Is.f
  rw [l01N_eq]
  refine evsome ?_
  rw [l01In_eq]
  refine evsome ?_
  by_cases h : (1 : Int) ≤ (d.length : Int) ∧ (d.length : Int) ≤ 24
  · refine evpos (decide_eq_true h) ?_
    have := ev_l01Is_l0 d [] 1 (by simp; omega) (by omega) (.inr trivial) (by omega)
    rw [Tr.isT_eq25 d (by omega) (by omega)]
    exact this
  · refine evneg (by simpa using h) (evnow ?_)
    simp only [Tr.isT]
    by_cases h2 : 1 ≤ d.length
    · simp only [decide_eq_false (by omega : ¬ d.length ≤ 24), Bool.false_and, Bool.and_false]
    · simp only [decide_eq_false h2, Bool.false_and]
theorem ev_endOf_l0 (d : List Int) (hd : d.length ≤ 1000) (r : Int) : ∀ (g : Tr.F) (p j : Nat), Tr.Pl d p g → j + g.size ≤ 100000 →
    Ev (fun k => impl_endOf.l0 k d ((p + g.size : Nat) : Int) (j : Int)) r → Ev (fun k => impl_endOf.l0 k d (p : Int) ((g.len + j : Nat) : Int)) r := by
  intro g
  induction g with
  | nil => intro p j _ _ h; simpa [Tr.F.size, Tr.F.len] using h
  | cons b n hb hn =>
    intro p j hp hj h
    have hle := hp.le
    simp only [Tr.F.size] at hle hj
    have l1 := Tr.F.len_le b
    have l2 := Tr.F.len_le n
    refine Ev_succ ?_
    simp only [impl_endOf.l0, Tr.F.len]
    refine evpos (by omega) (evpos (by omega) (evpos (by omega) ?_))
    rw [hp.deg]
    have e : wrap64 ((p : Int) + 1) = ((p + 1 : Nat) : Int) := by rw [Tr.wrap_id (by omega) (by omega)]; omega
    have e2 : wrap64 (((1 + n.len + j : Nat) : Int) + wrap64 ((b.len : Int) - 1)) = ((b.len + (n.len + j) : Nat) : Int) := by
      rw [Tr.wrap_id (x := (b.len : Int) - 1) (by omega) (by omega), Tr.wrap_id (by omega) (by omega)]; omega
    rw [e, e2]
    refine hb (p + 1) (n.len + j) hp.below (by omega) ?_
    refine hn (p + 1 + b.size) j hp.next (by omega) ?_
    rw [show p + 1 + b.size + n.size = p + (Tr.F.cons b n).size by simp only [Tr.F.size]; omega]
    exact h
theorem ev_endOf {d : List Int} (hd : d.length ≤ 1000) {p : Nat} {b n : Tr.F} (h : Tr.Pl d p (.cons b n)) : Ev (fun k => impl_endOf.f k d (p : Int)) ((p + 1 + b.size : Nat) : Int) := by
  unfold impl_endOf.f
  have := ev_endOf_l0 d hd ((p + 1 + b.size : Nat) : Int) (.cons b .nil) p 0 h.one (by have := h.le; simp only [Tr.F.size] at this ⊢; omega)
  simp only [Tr.F.len, Tr.F.size] at this
  refine this ?_
  refine Ev_succ ?_
  simp only [impl_endOf.l0]
  refine evneg (by omega) (evnow (by omega))
theorem ev_l01End_l0 (d : List Int) (hd : d.length ≤ 1000) (r : Int) : ∀ (g : Tr.F) (p j : Nat), Tr.Pl d p g → j + g.size ≤ 100000 →
    Ev (fun k => spec_l01End.l0 k ((p + g.size : Nat) : Int) (j : Int) d) r → Ev (fun k => spec_l01End.l0 k (p : Int) ((g.len + j : Nat) : Int) d) r := by
  intro g
  induction g with
  | nil => intro p j _ _ h; simpa [Tr.F.size, Tr.F.len] using h
  | cons b n hb hn =>
    intro p j hp hj h
    have hle := hp.le
    simp only [Tr.F.size] at hle hj
    have l1 := Tr.F.len_le b
    have l2 := Tr.F.len_le n
    refine Ev_succ ?_
    simp only [spec_l01End.l0, Tr.F.len]
    refine evpos (by omega) (evpos (by omega) (evpos (by omega) ?_))
    rw [hp.deg]
    have e : wrap64 ((p : Int) + 1) = ((p + 1 : Nat) : Int) := by rw [Tr.wrap_id (by omega) (by omega)]; omega
    have e2 : wrap64 (wrap64 (((1 + n.len + j : Nat) : Int) - 1) + (b.len : Int)) = ((b.len + (n.len + j) : Nat) : Int) := by
      rw [Tr.wrap_id (x := ((1 + n.len + j : Nat) : Int) - 1) (by omega) (by omega), Tr.wrap_id (by omega) (by omega)]; omega
    rw [e, e2]
    refine hb (p + 1) (n.len + j) hp.below (by omega) ?_
    refine hn (p + 1 + b.size) j hp.next (by omega) ?_
    rw [show p + 1 + b.size + n.size = p + (Tr.F.cons b n).size by simp only [Tr.F.size]; omega]
    exact h
theorem ev_l01End {d : List Int} (hd : d.length ≤ 1000) {p : Nat} {b n : Tr.F} (h : Tr.Pl d p (.cons b n)) : Ev (fun k => spec_l01End.f k d (p : Int)) ((p + 1 + b.size : Nat) : Int) := by
  unfold spec_l01End.f
  have := ev_l01End_l0 d hd ((p + 1 + b.size : Nat) : Int) (.cons b .nil) p 0 h.one (by have := h.le; simp only [Tr.F.size] at this ⊢; omega)
  simp only [Tr.F.len, Tr.F.size] at this
  refine this ?_
  refine Ev_succ ?_
  simp only [spec_l01End.l0]
  refine evneg (by omega) (evnow (by omega))
theorem ev_kidsOf_l0 (d : List Int) (hd : d.length ≤ 1000) : ∀ (g : Tr.F) (p i N : Nat) (out : List Int), Tr.Pl d p g → i + g.len = N → N ≤ 1000 → out.length ≤ i →
    Ev (fun k => impl_kidsOf.l0 k d out (p : Int) (N : Int) (i : Int)) (out ++ g.roots p) := by
  intro g
  induction g with
  | nil =>
    intro p i N out hp hi hN ho
    simp only [Tr.F.len] at hi
    refine Ev_succ ?_
    simp only [impl_kidsOf.l0]
    refine evneg (by omega) (evnow ?_)
    simp [Tr.F.roots]
  | cons b n hb hn =>
    intro p i N out hp hi hN ho
    simp only [Tr.F.len] at hi
    refine Ev_succ ?_
    simp only [impl_kidsOf.l0]
    refine evpos (by omega) (evpos (by omega) (Ev.bind (ev_endOf hd hp) ?_))
    have e : wrap64 ((i : Int) + 1) = ((i + 1 : Nat) : Int) := by rw [Tr.wrap_id (by omega) (by omega)]; omega
    rw [e]
    have := hn (p + 1 + b.size) (i + 1) N (out ++ [(p : Int)]) hp.next (by omega) hN (by simp; omega)
    simpa [Tr.F.roots] using this
theorem ev_kidsOf {d : List Int} (hd : d.length ≤ 1000) {p : Nat} {b n : Tr.F} (h : Tr.Pl d p (.cons b n)) : Ev (fun k => impl_kidsOf.f k d (p : Int)) (b.roots (p + 1)) := by
  have hle := h.le
  simp only [Tr.F.size] at hle
  have l1 := Tr.F.len_le b
  unfold impl_kidsOf.f
  refine evpos (by omega) (evpos (by omega) ?_)
  have e : wrap64 ((p : Int) + 1) = ((p + 1 : Nat) : Int) := by rw [Tr.wrap_id (by omega) (by omega)]; omega
  rw [h.deg, e]
  have := ev_kidsOf_l0 d hd b (p + 1) 0 b.len [] h.below (by omega) (by omega) (by simp)
  simpa using this
theorem ev_l01Children_l0 (d : List Int) (hd : d.length ≤ 1000) : ∀ (g : Tr.F) (p : Nat) (out : List Int), Tr.Pl d p g → out.length + g.len ≤ 1000 →
    Ev (fun k => spec_l01Children.l0 k out (p : Int) (g.len : Int) d) (out ++ g.roots p) := by
  intro g
  induction g with
  | nil =>
    intro p out hp ho
    refine Ev_succ ?_
    simp only [spec_l01Children.l0, Tr.F.len]
    refine evneg (by omega) (evnow ?_)
    simp [Tr.F.roots]
  | cons b n hb hn =>
    intro p out hp ho
    simp only [Tr.F.len] at ho
    refine Ev_succ ?_
    simp only [spec_l01Children.l0, Tr.F.len]
    refine evpos (by omega) (evpos (by omega) (Ev.bind (ev_l01End hd hp) ?_))
    have e : wrap64 (((1 + n.len : Nat) : Int) - 1) = (n.len : Int) := by rw [Tr.wrap_id (by omega) (by omega)]; omega
    rw [e]
    have := hn (p + 1 + b.size) (out ++ [(p : Int)]) hp.next (by simp; omega)
    simpa [Tr.F.roots] using this
theorem ev_l01Children {d : List Int} (hd : d.length ≤ 1000) {p : Nat} {b n : Tr.F} (h : Tr.Pl d p (.cons b n)) : Ev (fun k => spec_l01Children.f k d (p : Int)) (b.roots (p + 1)) := by
  have hle := h.le
  simp only [Tr.F.size] at hle
  have l1 := Tr.F.len_le b
  unfold spec_l01Children.f
  refine evpos (by omega) (evpos (by omega) ?_)
  have e : wrap64 ((p : Int) + 1) = ((p + 1 : Nat) : Int) := by rw [Tr.wrap_id (by omega) (by omega)]; omega
  rw [h.deg, e]
  have := ev_l01Children_l0 d hd b (p + 1) [] h.below (by simp; omega)
  simpa using this
theorem l08Half_eq (a : Int) (h0 : 0 ≤ a) (h1 : a ≤ 1000000) : spec_l08Half.f a = some (a / 2) := by
  unfold spec_l08Half.f
  rw [if_neg (by omega)]
  have e : Int.tdiv a 2 = a / 2 := Int.tdiv_eq_ediv_of_nonneg h0
  rw [e, Tr.wrap_id (by omega) (by omega)]
theorem ev_even_l1 {d : List Int} {t : Tr.F} (h : Tr.Tree d t) : ∀ (m : Nat) (out : List Int), m ≤ t.size → out.length = t.size → (∀ x ∈ out, 0 ≤ x ∧ x ≤ 1000) →
    ∃ r : List Int, Ev (fun k => spec_EvenColumns.l1 k out ((m : Int) - 1) d) (r, 0) ∧ Ev (fun k => impl_even.l1 k d out ((m : Int) - 1)) r ∧ r.length = t.size := by
  have hle := h.le
  have hlen := h.len
  intro m
  induction m with
  | zero =>
    intro out _ ho hb
    refine ⟨out, Ev_succ ?_, Ev_succ ?_, ho⟩
    · simp only [spec_EvenColumns.l1]; exact evneg (by omega) (Ev.now _)
    · simp only [impl_even.l1]; exact evneg (by omega) (Ev.now _)
  | succ m ih =>
    intro out hm ho hb
    have em : ((m + 1 : Nat) : Int) - 1 = (m : Int) := by omega
    obtain ⟨n, hp⟩ := h.node (v := m) (by omega)
    have hk1 := ev_l01Children (d := d) (by omega) hp
    have hk2 := ev_kidsOf (d := d) (by omega) hp
    have hkr : ∀ c ∈ (t.sub m).roots (m + 1), (m : Int) < c ∧ c < t.size := fun c hc => h.kid_range (by omega) hc
    have hkl : ((t.sub m).roots (m + 1)).length ≤ 1000 := by
      rw [Tr.F.roots_len]
      have h1 := Tr.F.len_le (t.sub m)
      have h2 := h.fits (v := m) (by omega)
      omega
    generalize (t.sub m).roots (m + 1) = ks at hk1 hk2 hkr hkl
    rw [em]
    by_cases hz : ks.length = 0
    · obtain ⟨r, h1, h2, h3⟩ := ih out (by omega) ho hb
      refine ⟨r, Ev_succ ?_, Ev_succ ?_, h3⟩
      · simp only [spec_EvenColumns.l1]
        refine evpos (by omega) (Ev.bind hk1 (evneg (by omega) ?_))
        rw [Tr.wrap_id (by omega) (by omega)]; exact h1
      · simp only [impl_even.l1]
        refine evpos (by omega) (Ev.bind hk2 (evneg (by omega) ?_))
        rw [Tr.wrap_id (by omega) (by omega)]; exact h2
    · have m0 : rd ks 0 ∈ ks := Tr.rd_mem (by omega) (by omega)
      have m1 : rd ks ((ks.length : Int) - 1) ∈ ks := Tr.rd_mem (by omega) (by omega)
      have k0 := hkr _ m0
      have k1 := hkr _ m1
      clear m0 m1 hkr
      generalize hc0 : rd ks 0 = c0 at k0
      generalize hc1 : rd ks ((ks.length : Int) - 1) = c1 at k1
      have b0 := hb _ (Tr.rd_mem (l := out) (i := c0) (by omega) (by omega))
      have b1 := hb _ (Tr.rd_mem (l := out) (i := c1) (by omega) (by omega))
      generalize hs0 : rd out c0 = s0 at b0
      generalize hs1 : rd out c1 = s1 at b1
      obtain ⟨r, h1, h2, h3⟩ := ih (out.set m ((s0 + s1) / 2)) (by omega) (by simpa using ho) (fun x hx => by
        rcases List.mem_or_eq_of_mem_set hx with hx | rfl
        · exact hb x hx
        · omega)
      refine ⟨r, Ev_succ ?_, Ev_succ ?_, h3⟩
      · simp only [spec_EvenColumns.l1]
        refine evpos (by omega) (Ev.bind hk1 ?_)
        rw [Tr.wrap_id (x := (ks.length : Int) - 1) (by omega) (by omega), hc0, hc1, hs0, hs1, Tr.wrap_id (x := s0 + s1) (by omega) (by omega), l08Half_eq _ (by omega) (by omega), Tr.wrap_id (x := (m : Int) - 1) (by omega) (by omega), Int.toNat_natCast]
        clear hc0 hc1 hs0 hs1
        exact evpos (by omega) (evpos (by omega) (evpos (by omega) (evpos (by omega) (evpos (by omega) (evpos (by omega) (evpos (by omega) (evpos (by omega) (evsome (evpos (by omega) (evpos (by omega) h1))))))))))
      · simp only [impl_even.l1]
        refine evpos (by omega) (Ev.bind hk2 ?_)
        rw [Tr.wrap_id (x := (ks.length : Int) - 1) (by omega) (by omega), hc0, hc1, hs0, hs1, Tr.wrap_id (x := s0 + s1) (by omega) (by omega), Tr.wrap_id (x := (m : Int) - 1) (by omega) (by omega), Int.toNat_natCast]
        clear hc0 hc1 hs0 hs1
        exact evpos (by omega) (evpos (by omega) (evpos (by omega) (evpos (by omega) (evpos (by omega) (evpos (by omega) (evpos (by omega) (evpos (by omega) (evpos (by omega) (evpos (by omega) h2)))))))))
theorem ev_even_l0 {d : List Int} {t : Tr.F} (h : Tr.Tree d t) : ∀ (m v : Nat) (out : List Int) (f : Int), v + m = t.size → out.length = t.size → 0 ≤ f → f ≤ v → (∀ x ∈ out, 0 ≤ x ∧ x ≤ 1000) →
    ∃ r : List Int, Ev (fun k => spec_EvenColumns.l0 k (t.size : Int) out f (v : Int) d) (r, 0) ∧ Ev (fun k => impl_even.l0 k d out (2 * f) d (t.size : Int) (v : Int)) r ∧ r.length = t.size := by
  have hle := h.le
  have hlen := h.len
  intro m
  induction m with
  | zero =>
    intro v out f hv ho h0 h1 hb
    obtain ⟨r, h2, h3, h4⟩ := ev_even_l1 h t.size out (Nat.le_refl _) ho hb
    refine ⟨r, Ev_succ ?_, Ev_succ ?_, h4⟩
    · simp only [spec_EvenColumns.l0]
      refine evneg (by omega) ?_
      rw [Tr.wrap_id (by omega) (by omega)]; exact h2
    · simp only [impl_even.l0]
      refine evneg (by omega) ?_
      rw [hlen, Tr.wrap_id (by omega) (by omega)]; exact h3
  | succ m ih =>
    intro v out f hv ho h0 h1 hb
    by_cases hz : rd d (v : Int) = 0
    · obtain ⟨r, h2, h3, h4⟩ := ih (v + 1) (out.set v (2 * f)) (f + 1) (by omega) (by simpa using ho) (by omega) (by omega) (fun x hx => by
        rcases List.mem_or_eq_of_mem_set hx with hx | rfl
        · exact hb x hx
        · omega)
      rw [show 2 * (f + 1) = 2 * f + 2 by omega] at h3
      refine ⟨r, Ev_succ ?_, Ev_succ ?_, h4⟩
      · simp only [spec_EvenColumns.l0]
        rw [Tr.wrap_succ (by omega), Tr.wrap_id (x := 2 * f) (by omega) (by omega), Tr.wrap_id (x := f + 1) (by omega) (by omega), Int.toNat_natCast]
        refine evpos (by omega) (evpos (by omega) (evpos (by omega) (evpos hz (evpos (by omega) h2))))
      · simp only [impl_even.l0]
        rw [Tr.wrap_succ (by omega), Tr.wrap_id (x := 2 * f + 2) (by omega) (by omega), Int.toNat_natCast]
        refine evpos (by omega) (evpos (by omega) (evpos (by omega) (evpos hz (evpos (by omega) h3))))
    · obtain ⟨r, h2, h3, h4⟩ := ih (v + 1) out f (by omega) ho h0 (by omega) hb
      refine ⟨r, Ev_succ ?_, Ev_succ ?_, h4⟩
      · simp only [spec_EvenColumns.l0]
        rw [Tr.wrap_succ (by omega)]
        exact evpos (by omega) (evpos (by omega) (evpos (by omega) (evneg hz h2)))
      · simp only [impl_even.l0]
        rw [Tr.wrap_succ (by omega)]
        exact evpos (by omega) (evpos (by omega) (evpos (by omega) (evneg hz h3)))
theorem ev_EvenColumns (d : List Int) : ∃ r : List Int × Int, Ev (fun k => spec_EvenColumns.f k d) r ∧ Ev (fun k => impl_EvenColumns.f k d) r ∧ r.1.length ≤ 1000 := by
  rcases Tr.isT_cases d with h | ⟨t, h⟩
  · refine ⟨([], 1), ?_, ?_, by simp⟩
    · unfold spec_EvenColumns.f; exact Ev.bind (ev_l01Is d) (evneg (by simp [h]) (Ev.now _))
    · unfold impl_EvenColumns.f; exact Ev.bind (ev_IsTree d) (evneg (by simp [h]) (Ev.now _))
  · have hle := h.le
    have hlen := h.len
    obtain ⟨r, h1, h2, h3⟩ := ev_even_l0 h t.size 0 (List.replicate d.length 0) 0 (by omega) (by simpa using hlen) (by omega) (by omega) (fun x hx => by rw [List.eq_of_mem_replicate hx]; omega)
    refine ⟨(r, 0), ?_, ?_, ?_⟩
    · unfold spec_EvenColumns.f
      refine Ev.bind (ev_l01Is d) (evpos h.isT ?_)
      rw [l01N_eq]
      refine evsome (evpos (by omega) (evpos (by omega) ?_))
      rw [Int.toNat_natCast, show (d.length : Int) = (t.size : Int) by omega]
      exact h1
    · unfold impl_EvenColumns.f impl_even.f
      refine Ev.bind (ev_IsTree d) (evpos h.isT ?_)
      refine Ev.bind (evpos (by omega) (evpos (by omega) ?_)) (Ev.now _)
      rw [Int.toNat_natCast, show (d.length : Int) = (t.size : Int) by omega]
      exact h2
    · have := h.few; simp only; omega
theorem pure_FnExactEvenColumns (l0 : List Int) (hl0 : l0.length ≤ maxLen) (_ : ∀ x ∈ l0, (Lit.int .i64 x).wf = true) : ∃ k, laws_FnExactEvenColumns.f k l0 = some true := by
  unfold maxLen at hl0
  refine Ev.rounds ?_
  unfold laws_FnExactEvenColumns.f
  rw [szTree_eq l0 (1048576) (by omega) (by omega) (by omega)]
  refine evsome ?_
  by_cases hs0 : (1048576 : Int) - l0.length < 0
  · rw [if_pos hs0]; exact evpos (by omega) (Ev.now _)
  rw [if_neg hs0]
  refine evneg hs0 ?_
  obtain ⟨r, hq, hi, hb⟩ := ev_EvenColumns l0
  repeat first
    | exact Ev.now _
    | refine Ev.bind hq ?_
    | refine Ev.bind hi ?_
    | refine Ev.bind (ev_toTree l0 (by omega)) ?_
    | refine Ev.bind (ev_eqTree l0 l0 (by omega) (by omega)) ?_
    | refine Ev.bind (ev_markTree l0 _ (by first | omega | simp) (by first | omega | (simp; omega))) ?_
    | refine Ev.bind (ev_eqInt64S _ _ (by omega) (by omega)) ?_
    | refine Ev.bind (ev_markInt64S _ _ (by first | omega | simp) (by first | omega | (simp; omega))) ?_
    | refine Ev.bind (ev_heldInt64S _ _ (by first | omega | simp) (by first | omega | (simp; omega))) ?_
    | (refine evpos ?_ ?_; first | rfl | (simp <;> fail))
    | (refine evneg ?_ ?_; first | (simp <;> fail) | (simp <;> omega))
    | (refine Ev_succ ?_; simp only [laws_FnExactEvenColumns.j0, laws_FnExactEvenColumns.j1, laws_FnExactEvenColumns.j2])
end Go.Proofs.Ytlealjliaifkcab.QFnExactEvenColumns
