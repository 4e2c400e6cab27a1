import Derived.Test.YteangdgmokkjbabQFnExactListOfGrowthx
import Derived.Test.YteangdgmokkjbabTr
import Derived.Test.YteangdgmokkjbabNd
import Derived.Test.YteangdgmokkjbabGr
import Derived.Test.YteangdgmokkjbabIx
import Derived.Test.YteangdgmokkjbabOd
import Derived.Test.YteangdgmokkjbabGt
import Derived.Test.YteangdgmokkjbabLg
namespace Go.Proofs.Yteangdgmokkjbab.QFnExactListOfGrowth
open Go.RowKit Go.Proofs.YteangdgmokkjbabW.PrintWords Go.Proofs.YteangdgmokkjbabW.PrintLast Go.Proofs.YteangdgmokkjbabW.PrintMore Go.Proofs.Yteangdgmokkjbab
set_option linter.unusedVariables false
set_option linter.unusedSimpArgs false
theorem Ev_succ {α : Type} {g : Nat → Option α} {r : α} (h : Ev (fun k => g (k + 1)) r) : Ev g r := Ev.step (fun _ => rfl) h
theorem evpos {α : Type} {c : Prop} [Decidable c] {f g : Nat → Option α} {r : α} (h : c) (k : Ev f r) : Ev (fun n => if c then f n else g n) r := by
  simp only [if_pos h]; exact k
theorem evneg {α : Type} {c : Prop} [Decidable c] {f g : Nat → Option α} {r : α} (h : ¬ c) (k : Ev g r) : Ev (fun n => if c then f n else g n) r := by
  simp only [if_neg h]; exact k
theorem evsome {α β : Type} {a : α} {f : Nat → α → Option β} {r : β} (k : Ev (fun n => f n a) r) : Ev (fun n => (some a).bind (f n)) r := k
theorem evnow {α : Type} {a r : α} (h : a = r) : Ev (fun _ => some a) r := by subst h; exact Ev.now _
theorem ev_eq_l0 (xs ys : List Int) (hl : xs.length = ys.length) (hb : xs.length ≤ 1152921504606846976) : ∀ (n i : Nat), i + n = xs.length →
    Ev (fun k => laws_eqInt64S.l0 k xs ys (i : Nat)) (decide (xs.drop i = ys.drop i)) := by
  intro n
  induction n with
  | zero =>
    intro i hi
    refine Ev_succ ?_
    simp only [laws_eqInt64S.l0]
    refine evneg (by omega) (evnow ?_)
    rw [List.drop_of_length_le (by omega), List.drop_of_length_le (by omega)]; rfl
  | succ n ih =>
    intro i hi
    refine Ev_succ ?_
    simp only [laws_eqInt64S.l0]
    refine evpos (by omega) (evpos (by omega) (evpos (by omega) ?_))
    rw [Tr.rd_getElem (by omega : i < xs.length), Tr.rd_getElem (by omega : i < ys.length)]
    have e : wrap64 ((i : Int) + 1) = ((i + 1 : Nat) : Int) := by rw [Tr.wrap_id (by omega) (by omega)]; omega
    rw [e]
    have e3 : (xs.drop i = ys.drop i) = (xs[i] = ys[i] ∧ xs.drop (i + 1) = ys.drop (i + 1)) := by
      rw [List.drop_eq_getElem_cons (by omega : i < xs.length), List.drop_eq_getElem_cons (by omega : i < ys.length)]
      exact List.cons.injEq _ _ _ _
    have e4 : decide (xs.drop i = ys.drop i) = decide (xs[i] = ys[i] ∧ xs.drop (i + 1) = ys.drop (i + 1)) := by simp only [e3]
    rw [e4]
    by_cases h : xs[i] = ys[i]
    · refine evpos h ?_
      have := ih (i + 1) (by omega)
      rw [show decide (xs[i] = ys[i] ∧ xs.drop (i + 1) = ys.drop (i + 1)) = decide (xs.drop (i + 1) = ys.drop (i + 1)) by simp only [h, true_and]]
      exact this
    · refine evneg h (evnow ?_)
      simp only [h, false_and, decide_false]
theorem ev_eqInt64S (xs ys : List Int) (hb : xs.length ≤ 1152921504606846976) (hc : ys.length ≤ 1152921504606846976) : Ev (fun k => laws_eqInt64S.f k xs ys) (decide (xs = ys)) := by
  unfold laws_eqInt64S.f
  by_cases h : xs.length = ys.length
  · refine evpos (by omega) ?_
    have := ev_eq_l0 xs ys h hb xs.length 0 (by omega)
    simpa using this
  · refine evneg (by omega) (evnow ?_)
    rw [eq_comm, decide_eq_false_iff_not]
    intro e; exact h (by rw [e])
theorem ev_eqTree (xs ys : List Int) (hb : xs.length ≤ 1152921504606846976) (hc : ys.length ≤ 1152921504606846976) : Ev (fun k => laws_eqTree.f k xs ys) (decide (xs = ys)) := by
  unfold laws_eqTree.f
  refine Ev.bind (ev_eqInt64S xs ys hb hc) ?_
  by_cases h : xs = ys
  · rw [decide_eq_true h]; exact evpos rfl (Ev.now _)
  · rw [decide_eq_false h]; exact evneg (by simp) (Ev.now _)
theorem szInt64S_eq (xs : List Int) (a : Int) (h0 : 0 ≤ a) (h1 : a ≤ 1048576) (hb : xs.length ≤ 9223372036854775807) : laws_szInt64S.f xs a = some (if a - xs.length < 0 then -1 else a - xs.length) := by
  unfold laws_szInt64S.f
  rw [Tr.wrap_id (by omega) (by omega)]
  split <;> rfl
theorem szTree_eq (xs : List Int) (a : Int) (h0 : 0 ≤ a) (h1 : a ≤ 1048576) (hb : xs.length ≤ 9223372036854775807) : laws_szTree.f xs a = some (if a - xs.length < 0 then -1 else a - xs.length) := by
  unfold laws_szTree.f
  rw [szInt64S_eq xs a h0 h1 hb]
  simp only [Option.bind_some]
  by_cases h : a - xs.length < 0
  · simp only [if_pos h]; rfl
  · simp only [if_neg h]
theorem ev_to_l0 (xs : List Int) (hb : xs.length ≤ 35184372088832) : ∀ (n i : Nat) (ys : List Int), i + n = xs.length → ys.length = xs.length → ys.take i = xs.take i →
    Ev (fun k => laws_toInt64S.l0 k xs ys (i : Nat)) xs := by
  intro n
  induction n with
  | zero =>
    intro i ys hi hy ht
    refine Ev_succ ?_
    simp only [laws_toInt64S.l0]
    refine evneg (by omega) (evnow ?_)
    rwa [List.take_of_length_le (by omega), List.take_of_length_le (by omega)] at ht
  | succ n ih =>
    intro i ys hi hy ht
    refine Ev_succ ?_
    simp only [laws_toInt64S.l0]
    refine evpos (by omega) (evpos (by omega) (evpos (by omega) ?_))
    have e : wrap64 ((i : Int) + 1) = ((i + 1 : Nat) : Int) := by rw [Tr.wrap_id (by omega) (by omega)]; omega
    rw [e, Tr.rd_getElem (by omega : i < xs.length), Int.toNat_natCast]
    refine ih (i + 1) _ (by omega) (by simp [hy]) ?_
    rw [List.take_succ_eq_append_getElem (by simp; omega), List.take_succ_eq_append_getElem (by omega)]
    simp [List.take_set_of_le, ht]
theorem ev_toInt64S (xs : List Int) (hb : xs.length ≤ 35184372088832) : Ev (fun k => laws_toInt64S.f k xs) xs := by
  unfold laws_toInt64S.f
  refine evpos (by omega) (evpos (by omega) ?_)
  have := ev_to_l0 xs hb xs.length 0 (List.replicate xs.length 0) (by omega) (by simp) (by simp)
  simpa using this
theorem ev_toTree (xs : List Int) (hb : xs.length ≤ 35184372088832) : Ev (fun k => laws_toTree.f k xs) xs := by
  unfold laws_toTree.f
  exact Ev.bind (ev_toInt64S xs hb) (Ev.now _)
/-- The numbers m, m + 1, .. -/
def up (m : Int) : Nat → List Int
  | 0 => []
  | n + 1 => m :: up (m + 1) n
theorem up_len (n : Nat) : ∀ m, (up m n).length = n := by
  induction n with
  | zero => intro m; rfl
  | succ n ih => intro m; simp [up, ih]
theorem up_get (n : Nat) : ∀ (m : Int) (i : Nat) (h : i < (up m n).length), (up m n)[i] = m + i := by
  induction n with
  | zero => intro m i h; simp [up] at h
  | succ n ih =>
    intro m i h
    cases i with
    | zero => simp [up]
    | succ i => simp only [up, List.getElem_cons_succ, ih]; omega
theorem ev_mark_l0 (a : Int) (N : Nat) (h0 : 0 ≤ a) (h1 : a + N ≤ 1152921504606846976) : ∀ (n i : Nat) (xs : List Int), i + n = N → xs.length = N → xs.take i = (up a N).take i →
    Ev (fun k => laws_markInt64S.l0 k xs (a + i) (i : Nat)) (a + N, up a N) := by
  intro n
  induction n with
  | zero =>
    intro i xs hi hy ht
    refine Ev_succ ?_
    simp only [laws_markInt64S.l0]
    refine evneg (by omega) (evnow ?_)
    rw [List.take_of_length_le (by omega), List.take_of_length_le (by rw [up_len]; omega)] at ht
    rw [ht]
    have : i = N := by omega
    subst this; rfl
  | succ n ih =>
    intro i xs hi hy ht
    refine Ev_succ ?_
    simp only [laws_markInt64S.l0]
    refine evpos (by omega) (evpos (by omega) ?_)
    have e : wrap64 ((i : Int) + 1) = ((i + 1 : Nat) : Int) := by rw [Tr.wrap_id (by omega) (by omega)]; omega
    have e2 : wrap64 (a + (i : Int) + 1) = a + ((i + 1 : Nat) : Int) := by rw [Tr.wrap_id (by omega) (by omega)]; omega
    rw [e, e2, Int.toNat_natCast]
    refine ih (i + 1) _ (by omega) (by simp [hy]) ?_
    rw [List.take_succ_eq_append_getElem (by simp; omega), List.take_succ_eq_append_getElem (by rw [up_len]; omega), up_get]
    simp [List.take_set_of_le, ht]
theorem ev_markInt64S (xs : List Int) (a : Int) (h0 : 0 ≤ a) (h1 : a + xs.length ≤ 1152921504606846976) : Ev (fun k => laws_markInt64S.f k xs a) (a + xs.length, up a xs.length) := by
  unfold laws_markInt64S.f
  have := ev_mark_l0 a xs.length h0 h1 xs.length 0 xs (by omega) rfl (by simp)
  simpa using this
theorem ev_held_l0 (a : Int) (N : Nat) (h0 : 0 ≤ a) (h1 : a + N ≤ 1152921504606846976) : ∀ (n i : Nat), i + n = N →
    Ev (fun k => laws_heldInt64S.l0 k (up a N) (a + i) (i : Nat)) (a + N) := by
  intro n
  induction n with
  | zero =>
    intro i hi
    refine Ev_succ ?_
    simp only [laws_heldInt64S.l0, up_len]
    refine evneg (by omega) (evnow ?_)
    omega
  | succ n ih =>
    intro i hi
    refine Ev_succ ?_
    simp only [laws_heldInt64S.l0, up_len]
    have e : wrap64 ((i : Int) + 1) = ((i + 1 : Nat) : Int) := by rw [Tr.wrap_id (by omega) (by omega)]; omega
    have e2 : wrap64 (a + (i : Int) + 1) = a + ((i + 1 : Nat) : Int) := by rw [Tr.wrap_id (by omega) (by omega)]; omega
    have e3 : rd (up a N) (i : Int) = a + i := by rw [Tr.rd_getElem (by rw [up_len]; omega), up_get]
    refine evpos (by omega) (evpos (by omega) (evpos e3 ?_))
    rw [e, e2]
    exact ih (i + 1) (by omega)
theorem ev_heldInt64S (N : Nat) (a : Int) (h0 : 0 ≤ a) (h1 : a + N ≤ 1152921504606846976) : Ev (fun k => laws_heldInt64S.f k (up a N) a) (a + N) := by
  unfold laws_heldInt64S.f
  have := ev_held_l0 a N h0 h1 N 0 (by omega)
  simpa using this
theorem ev_markTree (xs : List Int) (a : Int) (h0 : 0 ≤ a) (h1 : a + xs.length ≤ 1152921504606846976) : Ev (fun k => laws_markTree.f k xs a) (a + xs.length, up a xs.length) := by
  unfold laws_markTree.f
  exact Ev.bind (ev_markInt64S xs a h0 h1) (evnow rfl)
theorem ev_isTree_l0 : ∀ (l pre : List Int) (m : Int) (n : Int), n = ((pre ++ l).length : Int) → n ≤ 1000 → 0 ≤ m → m + 24 * l.length ≤ 100000 →
    Ev (fun k => impl_isTree.l0 k m (pre ++ l) n (pre.length : Int)) (Tr.ok l m) := by
  intro l
  induction l with
  | nil =>
    intro pre m n hn hb h0 h1
    refine Ev_succ ?_
    simp only [impl_isTree.l0]
    simp only [List.length_append, List.length_nil] at hn
    refine evneg (by omega) (evnow ?_)
    rfl
  | cons x l ih =>
    intro pre m n hn hb h0 h1
    refine Ev_succ ?_
    simp only [impl_isTree.l0]
    have hn' := hn
    simp only [List.length_append, List.length_cons] at hn h1 ⊢
    refine evpos (by omega) (evpos (by omega) (evpos (by simp; omega) ?_))
    have e : rd (pre ++ x :: l) (pre.length : Int) = x := by rw [Tr.rd_app0]; exact Tr.rd_cons0 _ _
    rw [e]
    by_cases hm : m = 0
    · refine evpos hm (evnow ?_); simp [Tr.ok, hm]
    · refine evneg hm ?_
      by_cases hx : x < 0
      · refine evpos hx (evnow ?_); simp [Tr.ok, hm, Int.not_le.mpr hx]
      · refine evneg hx ?_
        by_cases hy : x ≥ 24
        · refine evpos hy (evnow ?_); simp [Tr.ok, hm, Int.not_lt.mpr hy]
        · refine evneg hy ?_
          have e2 : wrap64 (m + wrap64 (x - 1)) = m - 1 + x := by rw [Tr.wrap_id (x := x - 1) (by omega) (by omega), Tr.wrap_id (by omega) (by omega)]; omega
          have e3 : wrap64 ((pre.length : Int) + 1) = ((pre ++ [x]).length : Int) := by rw [Tr.wrap_id (by omega) (by omega)]; simp
          rw [e2, e3]
          have := ih (pre ++ [x]) (m - 1 + x) n (by simp; omega) hb (by omega) (by omega)
          simp only [List.append_assoc, List.singleton_append] at this
          rw [show Tr.ok (x :: l) m = Tr.ok l (m - 1 + x) by
            have : (m != 0) = true := bne_iff_ne.mpr hm
            have h4 : decide (0 ≤ x) = true := decide_eq_true (by omega)
            have h5 : decide (x < 24) = true := decide_eq_true (by omega)
            simp only [Tr.ok, this, h4, h5, Bool.true_and]]
          exact this
theorem ev_isTree (d : List Int) : Ev (fun k => impl_isTree.f k d) (Tr.isT d) := by
  unfold impl_isTree.f
  by_cases h : (d.length : Int) < 1
  · refine evpos h (Ev_succ ?_)
    simp only [impl_isTree.j0]
    refine evpos (by simp) (evnow ?_)
    simp only [Tr.isT, decide_eq_false (by omega : ¬ 1 ≤ d.length), Bool.false_and]
  · refine evneg h (Ev_succ ?_)
    simp only [impl_isTree.j0]
    by_cases h2 : (d.length : Int) > 24
    · refine evpos (decide_eq_true h2) (evnow ?_)
      simp only [Tr.isT, decide_eq_false (by omega : ¬ d.length ≤ 24), Bool.false_and, Bool.and_false]
    · refine evneg (by simpa using h2) ?_
      have := ev_isTree_l0 d [] 1 d.length (by simp) (by omega) (by omega) (by omega)
      rw [show Tr.isT d = Tr.ok d 1 by simp only [Tr.isT, decide_eq_true (by omega : 1 ≤ d.length), decide_eq_true (by omega : d.length ≤ 24), Bool.true_and]]
      exact this
theorem ev_IsTree (d : List Int) : Ev (fun k => impl_IsTree.f k d) (Tr.isT d) := by
  unfold impl_IsTree.f
  exact Ev.bind (ev_isTree d) (Ev.now _)
theorem l01In_eq (a b c : Int) : spec_l01In.f a b c = some (decide (b ≤ a ∧ a ≤ c)) := by
  unfold spec_l01In.f
  by_cases h : a ≥ b
  · rw [if_pos h]; congr 1; simp; omega
  · rw [if_neg h]; congr 1; symm; simp; omega
theorem l01N_eq (d : List Int) : spec_l01N.f d = some (d.length : Int) := rfl
theorem ev_l01Is_l0 : ∀ (l pre : List Int) (m : Int), (pre ++ l).length ≤ 24 → 0 ≤ m → (m ≥ 1 ∨ True) → m + 25 * l.length ≤ 100000 →
    Ev (fun k => spec_l01Is.l0 k m (pre.length : Int) (pre ++ l)) (Tr.ok25 l m) := by
  intro l
  induction l with
  | nil =>
    intro pre m hb h0 _ h1
    refine Ev_succ ?_
    simp only [spec_l01Is.l0, List.length_append, List.length_nil]
    refine evneg (by omega) (evnow ?_)
    rfl
  | cons x l ih =>
    intro pre m hb h0 _ h1
    refine Ev_succ ?_
    simp only [spec_l01Is.l0]
    simp only [List.length_append, List.length_cons] at h1 hb ⊢
    refine evpos (by omega) ?_
    have e : rd (pre ++ x :: l) (pre.length : Int) = x := by rw [Tr.rd_app0]; exact Tr.rd_cons0 _ _
    rw [e, l01In_eq]
    by_cases hm : m = 0
    · refine evpos hm (evnow ?_); simp [Tr.ok25, hm]
    · refine evneg hm (evpos (by omega) (evsome ?_))
      by_cases hx : 0 ≤ x ∧ x ≤ 24
      · refine evpos (decide_eq_true hx) ?_
        have e2 : wrap64 (wrap64 (m - 1) + x) = m - 1 + x := by rw [Tr.wrap_id (x := m - 1) (by omega) (by omega), Tr.wrap_id (by omega) (by omega)]
        have e3 : wrap64 ((pre.length : Int) + 1) = ((pre ++ [x]).length : Int) := by rw [Tr.wrap_id (by omega) (by omega)]; simp
        rw [e2, e3]
        have := ih (pre ++ [x]) (m - 1 + x) (by simp; omega) (by omega) (.inr trivial) (by omega)
        simp only [List.append_assoc, List.singleton_append] at this
        rw [show Tr.ok25 (x :: l) m = Tr.ok25 l (m - 1 + x) by
          have : (m != 0) = true := bne_iff_ne.mpr hm
          simp only [Tr.ok25, this, decide_eq_true hx, Bool.true_and]]
        exact this
      · refine evneg (by simpa using hx) (evnow ?_)
        simp only [Tr.ok25, decide_eq_false hx, Bool.false_and, Bool.and_false]
theorem ev_l01Is (d : List Int) : Ev (fun k => spec_l01Is.f k d) (Tr.isT d) := by
  unfold spec_l01Is.f
  rw [l01N_eq]
  refine evsome ?_
  rw [l01In_eq]
  refine evsome ?_
  by_cases h : (1 : Int) ≤ (d.length : Int) ∧ (d.length : Int) ≤ 24
  · refine evpos (decide_eq_true h) ?_
    have := ev_l01Is_l0 d [] 1 (by simp; omega) (by omega) (.inr trivial) (by omega)
    rw [Tr.isT_eq25 d (by omega) (by omega)]
    exact this
  · refine evneg (by simpa using h) (evnow ?_)
    simp only [Tr.isT]
    by_cases h2 : 1 ≤ d.length
    · simp only [decide_eq_false (by omega : ¬ d.length ≤ 24), Bool.false_and, Bool.and_false]
    · simp only [decide_eq_false h2, Bool.false_and]
theorem ev_endOf_l0 (d : List Int) (hd : d.length ≤ 1000) (r : Int) : ∀ (g : Tr.F) (p j : Nat), Tr.Pl d p g → j + g.size ≤ 100000 →
    Ev (fun k => impl_endOf.l0 k d ((p + g.size : Nat) : Int) (j : Int)) r → Ev (fun k => impl_endOf.l0 k d (p : Int) ((g.len + j : Nat) : Int)) r := by
  intro g
  induction g with
  | nil => intro p j _ _ h; simpa [Tr.F.size, Tr.F.len] using h
  | cons b n hb hn =>
    intro p j hp hj h
    have hle := hp.le
    simp only [Tr.F.size] at hle hj
    have l1 := Tr.F.len_le b
    have l2 := Tr.F.len_le n
    refine Ev_succ ?_
    simp only [impl_endOf.l0, Tr.F.len]
    refine evpos (by omega) (evpos (by omega) (evpos (by omega) ?_))
    rw [hp.deg]
    have e : wrap64 ((p : Int) + 1) = ((p + 1 : Nat) : Int) := by rw [Tr.wrap_id (by omega) (by omega)]; omega
    have e2 : wrap64 (((1 + n.len + j : Nat) : Int) + wrap64 ((b.len : Int) - 1)) = ((b.len + (n.len + j) : Nat) : Int) := by
      rw [Tr.wrap_id (x := (b.len : Int) - 1) (by omega) (by omega), Tr.wrap_id (by omega) (by omega)]; omega
    rw [e, e2]
    refine hb (p + 1) (n.len + j) hp.below (by omega) ?_
    refine hn (p + 1 + b.size) j hp.next (by omega) ?_
    rw [show p + 1 + b.size + n.size = p + (Tr.F.cons b n).size by simp only [Tr.F.size]; omega]
    exact h
theorem ev_endOf {d : List Int} (hd : d.length ≤ 1000) {p : Nat} {b n : Tr.F} (h : Tr.Pl d p (.cons b n)) : Ev (fun k => impl_endOf.f k d (p : Int)) ((p + 1 + b.size : Nat) : Int) := by
  unfold impl_endOf.f
  have := ev_endOf_l0 d hd ((p + 1 + b.size : Nat) : Int) (.cons b .nil) p 0 h.one (by have := h.le; simp only [Tr.F.size] at this ⊢; omega)
  simp only [Tr.F.len, Tr.F.size] at this
  refine this ?_
  refine Ev_succ ?_
  simp only [impl_endOf.l0]
  refine evneg (by omega) (evnow (by omega))
theorem ev_l01End_l0 (d : List Int) (hd : d.length ≤ 1000) (r : Int) : ∀ (g : Tr.F) (p j : Nat), Tr.Pl d p g → j + g.size ≤ 100000 →
    Ev (fun k => spec_l01End.l0 k ((p + g.size : Nat) : Int) (j : Int) d) r → Ev (fun k => spec_l01End.l0 k (p : Int) ((g.len + j : Nat) : Int) d) r := by
  intro g
  induction g with
  | nil => intro p j _ _ h; simpa [Tr.F.size, Tr.F.len] using h
  | cons b n hb hn =>
    intro p j hp hj h
    have hle := hp.le
    simp only [Tr.F.size] at hle hj
    have l1 := Tr.F.len_le b
    have l2 := Tr.F.len_le n
    refine Ev_succ ?_
    simp only [spec_l01End.l0, Tr.F.len]
    refine evpos (by omega) (evpos (by omega) (evpos (by omega) ?_))
    rw [hp.deg]
    have e : wrap64 ((p : Int) + 1) = ((p + 1 : Nat) : Int) := by rw [Tr.wrap_id (by omega) (by omega)]; omega
    have e2 : wrap64 (wrap64 (((1 + n.len + j : Nat) : Int) - 1) + (b.len : Int)) = ((b.len + (n.len + j) : Nat) : Int) := by
      rw [Tr.wrap_id (x := ((1 + n.len + j : Nat) : Int) - 1) (by omega) (by omega), Tr.wrap_id (by omega) (by omega)]; omega
    rw [e, e2]
    refine hb (p + 1) (n.len + j) hp.below (by omega) ?_
    refine hn (p + 1 + b.size) j hp.next (by omega) ?_
    rw [show p + 1 + b.size + n.size = p + (Tr.F.cons b n).size by simp only [Tr.F.size]; omega]
    exact h
theorem ev_l01End {d : List Int} (hd : d.length ≤ 1000) {p : Nat} {b n : Tr.F} (h : Tr.Pl d p (.cons b n)) : Ev (fun k => spec_l01End.f k d (p : Int)) ((p + 1 + b.size : Nat) : Int) := by
  unfold spec_l01End.f
  have := ev_l01End_l0 d hd ((p + 1 + b.size : Nat) : Int) (.cons b .nil) p 0 h.one (by have := h.le; simp only [Tr.F.size] at this ⊢; omega)
  simp only [Tr.F.len, Tr.F.size] at this
  refine this ?_
  refine Ev_succ ?_
  simp only [spec_l01End.l0]
  refine evneg (by omega) (evnow (by omega))
theorem ev_kidsOf_l0 (d : List Int) (hd : d.length ≤ 1000) : ∀ (g : Tr.F) (p i N : Nat) (out : List Int), Tr.Pl d p g → i + g.len = N → N ≤ 1000 → out.length ≤ i →
    Ev (fun k => impl_kidsOf.l0 k d out (p : Int) (N : Int) (i : Int)) (out ++ g.roots p) := by
  intro g
  induction g with
  | nil =>
    intro p i N out hp hi hN ho
    simp only [Tr.F.len] at hi
    refine Ev_succ ?_
    simp only [impl_kidsOf.l0]
    refine evneg (by omega) (evnow ?_)
    simp [Tr.F.roots]
  | cons b n hb hn =>
    intro p i N out hp hi hN ho
    simp only [Tr.F.len] at hi
    refine Ev_succ ?_
    simp only [impl_kidsOf.l0]
    refine evpos (by omega) (evpos (by omega) (Ev.bind (ev_endOf hd hp) ?_))
    have e : wrap64 ((i : Int) + 1) = ((i + 1 : Nat) : Int) := by rw [Tr.wrap_id (by omega) (by omega)]; omega
    rw [e]
    have := hn (p + 1 + b.size) (i + 1) N (out ++ [(p : Int)]) hp.next (by omega) hN (by simp; omega)
    simpa [Tr.F.roots] using this
theorem ev_kidsOf {d : List Int} (hd : d.length ≤ 1000) {p : Nat} {b n : Tr.F} (h : Tr.Pl d p (.cons b n)) : Ev (fun k => impl_kidsOf.f k d (p : Int)) (b.roots (p + 1)) := by
  have hle := h.le
  simp only [Tr.F.size] at hle
  have l1 := Tr.F.len_le b
  unfold impl_kidsOf.f
  refine evpos (by omega) (evpos (by omega) ?_)
  have e : wrap64 ((p : Int) + 1) = ((p + 1 : Nat) : Int) := by rw [Tr.wrap_id (by omega) (by omega)]; omega
  rw [h.deg, e]
  have := ev_kidsOf_l0 d hd b (p + 1) 0 b.len [] h.below (by omega) (by omega) (by simp)
  simpa using this
theorem ev_l01Children_l0 (d : List Int) (hd : d.length ≤ 1000) : ∀ (g : Tr.F) (p : Nat) (out : List Int), Tr.Pl d p g → out.length + g.len ≤ 1000 →
    Ev (fun k => spec_l01Children.l0 k out (p : Int) (g.len : Int) d) (out ++ g.roots p) := by
  intro g
  induction g with
  | nil =>
    intro p out hp ho
    refine Ev_succ ?_
    simp only [spec_l01Children.l0, Tr.F.len]
    refine evneg (by omega) (evnow ?_)
    simp [Tr.F.roots]
  | cons b n hb hn =>
    intro p out hp ho
    simp only [Tr.F.len] at ho
    refine Ev_succ ?_
    simp only [spec_l01Children.l0, Tr.F.len]
    refine evpos (by omega) (evpos (by omega) (Ev.bind (ev_l01End hd hp) ?_))
    have e : wrap64 (((1 + n.len : Nat) : Int) - 1) = (n.len : Int) := by rw [Tr.wrap_id (by omega) (by omega)]; omega
    rw [e]
    have := hn (p + 1 + b.size) (out ++ [(p : Int)]) hp.next (by simp; omega)
    simpa [Tr.F.roots] using this
theorem ev_l01Children {d : List Int} (hd : d.length ≤ 1000) {p : Nat} {b n : Tr.F} (h : Tr.Pl d p (.cons b n)) : Ev (fun k => spec_l01Children.f k d (p : Int)) (b.roots (p + 1)) := by
  have hle := h.le
  simp only [Tr.F.size] at hle
  have l1 := Tr.F.len_le b
  unfold spec_l01Children.f
  refine evpos (by omega) (evpos (by omega) ?_)
  have e : wrap64 ((p : Int) + 1) = ((p + 1 : Nat) : Int) := by rw [Tr.wrap_id (by omega) (by omega)]; omega
  rw [h.deg, e]
  have := ev_l01Children_l0 d hd b (p + 1) [] h.below (by simp; omega)
  simpa using this
theorem ev_l01Parents_l1 (d : List Int) (v : Nat) (hv : v ≤ 1000) (r : List Int) : ∀ (l pre out : List Int), (pre ++ l).length ≤ 1000 → (∀ c ∈ l, 0 ≤ c ∧ c < out.length) →
    Ev (fun k => spec_l01Parents.l0 k (Tr.setAll out l v) ((v + 1 : Nat) : Int) d) r → Ev (fun k => spec_l01Parents.l1 k out (v : Int) (pre ++ l) (pre.length : Int) d) r := by
  intro l
  induction l with
  | nil =>
    intro pre out hb _ h
    refine Ev_succ ?_
    simp only [spec_l01Parents.l1]
    refine evneg (by simp) ?_
    have e : wrap64 ((v : Int) + 1) = ((v + 1 : Nat) : Int) := by rw [Tr.wrap_id (by omega) (by omega)]; omega
    rw [e]; exact h
  | cons c l ih =>
    intro pre out hb hc h
    have h1 := hc c (List.mem_cons_self ..)
    refine Ev_succ ?_
    simp only [spec_l01Parents.l1]
    have e : rd (pre ++ c :: l) (pre.length : Int) = c := by rw [Tr.rd_app0]; exact Tr.rd_cons0 _ _
    have hb' := hb
    simp only [List.length_append, List.length_cons] at hb
    have e3 : wrap64 ((pre.length : Int) + 1) = ((pre ++ [c]).length : Int) := by rw [Tr.wrap_id (by omega) (by omega)]; simp
    refine evpos (by simp; omega) (evpos (by omega) (evpos (by rw [e]; omega) (evpos (by rw [e]; omega) ?_)))
    rw [e, e3]
    have := ih (pre ++ [c]) (out.set c.toNat v) (by simpa using hb') (fun x hx => by have := hc x (List.mem_cons_of_mem _ hx); simpa using this) h
    simpa using this
theorem ev_l01Parents_l0 {d : List Int} {t : Tr.F} (h : Tr.Tree d t) : ∀ (m v : Nat) (out : List Int), v + m = t.size → out.length = t.size → (∀ c : Nat, c < t.size → t.par 0 (-1) c < v → rd out (c : Int) = t.par 0 (-1) c) →
    Ev (fun k => spec_l01Parents.l0 k out (v : Int) d) (Tr.parentsL t) := by
  have hle := h.le
  have hlen := h.len
  intro m
  induction m with
  | zero =>
    intro v out hv ho hi
    refine Ev_succ ?_
    simp only [spec_l01Parents.l0, l01N_eq]
    refine evsome (evneg (by omega) (evnow ?_))
    refine Tr.each_eq ho (fun c hc => hi c hc ?_)
    have := (h.par_lt hc).2; omega
  | succ m ih =>
    intro v out hv ho hi
    refine Ev_succ ?_
    simp only [spec_l01Parents.l0, l01N_eq]
    obtain ⟨n, hp⟩ := h.node (v := v) (by omega)
    refine evsome (evpos (by omega) (Ev.bind (ev_l01Children (by omega) hp) ?_))
    have hk : ∀ c ∈ (t.sub v).roots (v + 1), 0 ≤ c ∧ c < out.length := fun c hc => by have := h.kid_range (v := v) (by omega) hc; omega
    refine ev_l01Parents_l1 d v (by omega) _ _ [] out ?_ hk ?_
    · have := Tr.F.len_le (t.sub v)
      have := h.fits (v := v) (by omega)
      rw [List.nil_append, Tr.F.roots_len]; omega
    · refine ih (v + 1) _ (by omega) (by rw [Tr.setAll_len]; exact ho) (fun c hc hpc => ?_)
      rw [Tr.setAll_rd v _ _ _ (fun x hx => (hk x hx).1) (by omega)]
      by_cases e : (c : Int) ∈ (t.sub v).roots (v + 1)
      · rw [if_pos e]; exact ((h.kids (by omega) hc).1 e).symm
      · rw [if_neg e]
        refine hi c hc ?_
        have : ¬ t.par 0 (-1) c = v := fun e' => e ((h.kids (by omega) hc).2 e')
        omega
theorem ev_l01Parents {d : List Int} {t : Tr.F} (h : Tr.Tree d t) : Ev (fun k => spec_l01Parents.f k d) (Tr.parentsL t) := by
  have hle := h.le
  have hlen := h.len
  have hpos := h.pos
  unfold spec_l01Parents.f
  rw [l01N_eq]
  refine evsome (evpos (by omega) (evpos (by omega) (evsome (evpos (by simp; omega) ?_))))
  refine ev_l01Parents_l0 h t.size 0 _ (by omega) (by simp; omega) (fun c hc hp => ?_)
  have e : c = 0 := by
    by_cases e : c = 0
    · exact e
    · have := h.par_pos (c := c) (by omega) hc; omega
  subst e
  rw [h.par_zero]
  have := Tr.rd_set (l := List.replicate (d.length : Int).toNat 0) (c := 0) (x := -1) (i := 0) (by simp; omega) (by omega)
  simpa using this
theorem ev_parentsOf_l1 (d : List Int) (v : Nat) (hv : v ≤ 1000) (N : Int) (r : List Int) : ∀ (l pre out : List Int), (pre ++ l).length ≤ 1000 → (∀ c ∈ l, 0 ≤ c ∧ c < out.length) →
    Ev (fun k => impl_parentsOf.l0 k d (Tr.setAll out l v) N ((v + 1 : Nat) : Int)) r → Ev (fun k => impl_parentsOf.l1 k d out (v : Int) N (v : Int) (pre ++ l) ((pre ++ l).length : Int) (pre.length : Int)) r := by
  intro l
  induction l with
  | nil =>
    intro pre out hb _ h
    refine Ev_succ ?_
    simp only [impl_parentsOf.l1]
    refine evneg (by simp) ?_
    rw [Tr.wrap_succ (by omega)]; exact h
  | cons c l ih =>
    intro pre out hb hc h
    have h1 := hc c (List.mem_cons_self ..)
    refine Ev_succ ?_
    simp only [impl_parentsOf.l1]
    have e : rd (pre ++ c :: l) (pre.length : Int) = c := by rw [Tr.rd_app0]; exact Tr.rd_cons0 _ _
    have hb' := hb
    simp only [List.length_append, List.length_cons] at hb
    refine evpos (by simp; omega) (evpos (by omega) (evpos (by simp; omega) ?_))
    rw [e]
    clear e
    refine evpos h1.1 (evpos h1.2 ?_)
    rw [Tr.wrap_succ (by omega)]
    have := ih (pre ++ [c]) (out.set c.toNat v) (by simpa using hb') (fun x hx => by have := hc x (List.mem_cons_of_mem _ hx); simpa using this) h
    simpa using this
theorem ev_parentsOf_l0 {d : List Int} {t : Tr.F} (h : Tr.Tree d t) : ∀ (m v : Nat) (out : List Int), v + m = t.size → out.length = t.size → (∀ c : Nat, c < t.size → t.par 0 (-1) c < v → rd out (c : Int) = t.par 0 (-1) c) →
    Ev (fun k => impl_parentsOf.l0 k d out (t.size : Int) (v : Int)) (Tr.parentsL t) := by
  have hle := h.le
  have hlen := h.len
  intro m
  induction m with
  | zero =>
    intro v out hv ho hi
    refine Ev_succ ?_
    simp only [impl_parentsOf.l0]
    refine evneg (by omega) (evnow ?_)
    refine Tr.each_eq ho (fun c hc => hi c hc ?_)
    have := (h.par_lt hc).2; omega
  | succ m ih =>
    intro v out hv ho hi
    refine Ev_succ ?_
    simp only [impl_parentsOf.l0]
    obtain ⟨n, hp⟩ := h.node (v := v) (by omega)
    refine evpos (by omega) (Ev.bind (ev_kidsOf (by omega) hp) ?_)
    have hk : ∀ c ∈ (t.sub v).roots (v + 1), 0 ≤ c ∧ c < out.length := fun c hc => by have := h.kid_range (v := v) (by omega) hc; omega
    refine ev_parentsOf_l1 d v (by omega) _ _ _ [] out ?_ hk ?_
    · have := Tr.F.len_le (t.sub v)
      have := h.fits (v := v) (by omega)
      rw [List.nil_append, Tr.F.roots_len]; omega
    · refine ih (v + 1) _ (by omega) (by rw [Tr.setAll_len]; exact ho) (fun c hc hpc => ?_)
      rw [Tr.setAll_rd v _ _ _ (fun x hx => (hk x hx).1) (by omega)]
      by_cases e : (c : Int) ∈ (t.sub v).roots (v + 1)
      · rw [if_pos e]; exact ((h.kids (by omega) hc).1 e).symm
      · rw [if_neg e]
        refine hi c hc ?_
        have : ¬ t.par 0 (-1) c = v := fun e' => e ((h.kids (by omega) hc).2 e')
        omega
theorem ev_parentsOf {d : List Int} {t : Tr.F} (h : Tr.Tree d t) : Ev (fun k => impl_parentsOf.f k d) (Tr.parentsL t) := by
  have hle := h.le
  have hlen := h.len
  have hpos := h.pos
  unfold impl_parentsOf.f slices_Repeat.f
  rw [if_pos (by refine ⟨rfl, ?_, ?_⟩ <;> omega)]
  refine evsome ?_
  rw [hlen]
  refine ev_parentsOf_l0 h t.size 0 _ (by omega) (by simp) (fun c hc hp => ?_)
  have e : c = 0 := by
    by_cases e : c = 0
    · exact e
    · have := h.par_pos (c := c) (by omega) hc; omega
  subst e
  rw [h.par_zero]
  rw [Tr.rd_getElem (by simp; omega)]
  simp [rd]
theorem ev_l09Order_l0 (d : List Int) (hd : d.length ≤ 1000) : ∀ (l pre : List Int) (met : List Bool), (pre ++ l).length ≤ 100000000 → met.length = d.length → pre.Nodup → (∀ x ∈ pre, 0 ≤ x ∧ x < d.length) → (∀ v : Nat, v < d.length → rdOf false met (v : Int) = decide ((v : Int) ∈ pre)) →
    Ev (fun k => spec_l09Order.l0 k (pre ++ l) met (pre.length : Int) d) (decide (Tr.isOrd d.length (pre ++ l))) := by
  intro l
  induction l with
  | nil =>
    intro pre met hb hm hn hr hmet
    refine Ev_succ ?_
    simp only [spec_l09Order.l0, l01N_eq]
    refine evneg (by simp) (evsome (evnow ?_))
    rw [List.append_nil, Bool.eq_iff_iff, beq_iff_eq, decide_eq_true_eq]
    constructor
    · intro e; exact ⟨by omega, hn, hr⟩
    · intro e; have := e.1; omega
  | cons x l ih =>
    intro pre met hb hm hn hr hmet
    have hb' := hb
    simp only [List.length_append, List.length_cons] at hb
    have e : rd (pre ++ x :: l) (pre.length : Int) = x := by rw [Tr.rd_app0]; exact Tr.rd_cons0 _ _
    have e3 : wrap64 ((pre.length : Int) + 1) = ((pre ++ [x]).length : Int) := by rw [Tr.wrap_id (by omega) (by omega)]; simp
    refine Ev_succ ?_
    simp only [spec_l09Order.l0, l01N_eq]
    refine evpos (by simp; omega) (evpos (by omega) (evsome ?_))
    rw [e, e3, l01In_eq, Tr.wrap_id (by omega) (by omega)]
    refine evsome ?_
    by_cases hx : 0 ≤ x ∧ x ≤ (d.length : Int) - 1
    · obtain ⟨v, rfl⟩ := Int.eq_ofNat_of_zero_le hx.1
      have hv : v < d.length := by omega
      refine evpos (by simpa using hx) (evpos (by omega) (evpos (by omega) ?_))
      rw [hmet v hv]
      by_cases hp : (v : Int) ∈ pre
      · refine evpos (by simpa using hp) (evnow ?_)
        symm; rw [decide_eq_false_iff_not]
        rintro ⟨_, h2, _⟩
        rw [List.nodup_append] at h2
        exact h2.2.2 _ hp _ (by simp) rfl
      · refine evneg (by simpa using hp) ?_
        have := ih (pre ++ [(v : Int)]) (met.set (v : Int).toNat true) (by simpa using hb') (by simpa using hm)
          (by
            rw [List.nodup_append]
            refine ⟨hn, by simp, ?_⟩
            intro a ha b hb e
            simp only [List.mem_singleton] at hb
            subst hb; subst e; exact hp ha)
          (by
            intro y hy
            simp only [List.mem_append, List.mem_singleton] at hy
            rcases hy with hy | rfl
            · exact hr y hy
            · omega)
          (fun u hu => by
            rw [Tr.rdOf_set (by omega) (by omega), hmet u hu]
            by_cases e : (v : Int) = u
            · rw [if_pos e]; simp [e]
            · rw [if_neg e]; congr 1; simp only [List.mem_append, List.mem_singleton, eq_iff_iff]; constructor
              · exact fun h => .inl h
              · rintro (h | h)
                · exact h
                · exact absurd h.symm e)
        simpa using this
    · refine evneg (by simpa using hx) (evnow ?_)
      symm; rw [decide_eq_false_iff_not]
      rintro ⟨_, _, h3⟩
      have := h3 x (by simp)
      omega
theorem ev_l09Order (d : List Int) (hd : d.length ≤ 1000) (l : List Int) (hl : l.length ≤ 100000000) : Ev (fun k => spec_l09Order.f k d l) (decide (Tr.isOrd d.length l)) := by
  unfold spec_l09Order.f
  rw [l01N_eq]
  refine evsome (evpos (by omega) (evpos (by omega) ?_))
  have := ev_l09Order_l0 d hd l [] (List.replicate d.length false) (by simpa using hl) (by simp) (by simp) (by simp) (fun v hv => by rw [Tr.rdOf_rep]; simp)
  simpa using this
theorem ev_l09Growing_l0 {d : List Int} {t : Tr.F} (h : Tr.Tree d t) : ∀ (l pre : List Int) (met : List Bool), (∀ c ∈ l, 0 ≤ c ∧ c < t.size) → (pre ++ l).length ≤ 100000000 → met.length = t.size → (∀ v : Nat, v < t.size → rdOf false met (v : Int) = decide ((v : Int) ∈ pre)) →
    Ev (fun k => spec_l09Growing.l0 k (pre ++ l) (Tr.parentsL t) met (pre.length : Int)) (Tr.grows t pre l) := by
  have hle := h.le
  have hlen := h.len
  intro l
  induction l with
  | nil =>
    intro pre met _ hb hm hmet
    refine Ev_succ ?_
    simp only [spec_l09Growing.l0]
    exact evneg (by simp) (Ev.now _)
  | cons x l ih =>
    intro pre met hc hb hm hmet
    have h1 := hc x (List.mem_cons_self ..)
    have hb' := hb
    simp only [List.length_append, List.length_cons] at hb
    have e : rd (pre ++ x :: l) (pre.length : Int) = x := by rw [Tr.rd_app0]; exact Tr.rd_cons0 _ _
    have e3 : wrap64 ((pre.length : Int) + 1) = ((pre ++ [x]).length : Int) := by rw [Tr.wrap_id (by omega) (by omega)]; simp
    obtain ⟨v, rfl⟩ := Int.eq_ofNat_of_zero_le h1.1
    have hv : v < t.size := by omega
    have hpr : rd (Tr.parentsL t) (v : Int) = t.par 0 (-1) v := Tr.each_rd hv
    have hpl : (Tr.parentsL t).length = t.size := Tr.each_len _ _
    have hpv := h.par_lt hv
    have go : Ev (fun k => spec_l09Growing.l0 k (pre ++ (v : Int) :: l) (Tr.parentsL t) (met.set (v : Int).toNat true) ((pre ++ [(v : Int)]).length : Int)) (Tr.grows t (pre ++ [(v : Int)]) l) := by
      have := ih (pre ++ [(v : Int)]) (met.set (v : Int).toNat true) (fun x hx => hc x (List.mem_cons_of_mem _ hx)) (by simpa using hb') (by simpa using hm) (fun u hu => by
        rw [Tr.rdOf_set (by omega) (by omega), hmet u hu]
        by_cases e : (v : Int) = u
        · rw [if_pos e]; simp [e]
        · rw [if_neg e]; congr 1; simp only [List.mem_append, List.mem_singleton, eq_iff_iff]; constructor
          · exact fun h => .inl h
          · rintro (h | h)
            · exact h
            · exact absurd h.symm e)
      simpa using this
    refine Ev_succ ?_
    simp only [spec_l09Growing.l0]
    refine evpos (by simp; omega) (evpos (by omega) ?_)
    rw [e, e3, hpr, hpl, hm]
    refine evpos (by omega) (evpos (by omega) ?_)
    simp only [Tr.grows]
    rw [show (v : Int).toNat = v from Int.toNat_natCast v] at go ⊢
    generalize t.par 0 (-1) v = q at hpr hpv ⊢
    by_cases hp : 0 ≤ q
    · obtain ⟨p, rfl⟩ := Int.eq_ofNat_of_zero_le hp
      refine evpos (by omega) (evpos (by omega) (evpos (by omega) ?_))
      rw [hmet p (by omega), show decide (((p : Int)) < 0) = false from decide_eq_false (by omega), Bool.false_or]
      by_cases hm2 : (p : Int) ∈ pre
      · refine evpos (by simpa using hm2) (evpos (by omega) ?_)
        rw [decide_eq_true hm2, Bool.true_and]
        exact go
      · refine evneg (by simpa using hm2) (evnow ?_)
        rw [decide_eq_false hm2, Bool.false_and]
    · refine evneg (by omega) (evpos (by omega) ?_)
      rw [decide_eq_true (by omega : q < 0), Bool.true_or, Bool.true_and]
      exact go
theorem ev_l09Growing {d : List Int} {t : Tr.F} (h : Tr.Tree d t) {l : List Int} (ho : Tr.isOrd d.length l) : Ev (fun k => spec_l09Growing.f k d l) (Tr.growing t l) := by
  have hle := h.le
  have hlen := h.len
  unfold spec_l09Growing.f
  refine Ev.bind (ev_l01Parents h) ?_
  rw [l01N_eq]
  refine evsome (evpos (by omega) (evpos (by omega) ?_))
  have := ev_l09Growing_l0 h l [] (List.replicate d.length false) (by rw [← hlen]; exact ho.2.2) (by have := ho.1; simp; omega) (by simpa using hlen) (fun v hv => by rw [Tr.rdOf_rep]; simp)
  show Ev _ (Tr.grows t [] l)
  simpa using this
theorem ev_l09Code_bad {d : List Int} (h : Tr.isT d = false) (l : List Int) : Ev (fun k => spec_l09Code.f k d l) 1 := by
  unfold spec_l09Code.f; exact Ev.bind (ev_l01Is d) (evneg (by simp [h]) (Ev.now _))
theorem ev_l09Code {d : List Int} {t : Tr.F} (h : Tr.Tree d t) (l : List Int) (hl : l.length ≤ 100000000) : Ev (fun k => spec_l09Code.f k d l) (Tr.codeG d l t) := by
  have hle := h.le
  unfold spec_l09Code.f
  refine Ev.bind (ev_l01Is d) (evpos h.isT (Ev.bind (ev_l09Order d (by omega) l hl) ?_))
  unfold Tr.codeG
  by_cases ho : Tr.isOrd d.length l
  · refine evpos (by simpa using ho) (Ev.bind (ev_l09Growing h ho) ?_)
    rw [if_pos ho]
    cases hg : Tr.growing t l with
    | true => exact evpos rfl (evnow (by simp))
    | false => exact evneg (by simp) (evnow (by simp))
  · refine evneg (by simpa using ho) (evnow ?_)
    rw [if_neg ho]
theorem ev_orderCode_l0 : ∀ (l pre : List Int) (N : Int), N = ((pre ++ l).length : Int) → N ≤ 100000000 → pre = Tr.upto pre.length →
    Ev (fun k => impl_orderCode.l0 k (pre ++ l) N (pre.length : Int)) (if pre ++ l = Tr.upto (pre ++ l).length then 0 else 2) := by
  intro l
  induction l with
  | nil =>
    intro pre N hN hb hp
    refine Ev_succ ?_
    simp only [impl_orderCode.l0]
    refine evneg (by simp at hN; omega) (evnow ?_)
    rw [List.append_nil, if_pos hp]
  | cons x l ih =>
    intro pre N hN hb hp
    have hN' := hN
    simp only [List.length_append, List.length_cons] at hN
    have e : rd (pre ++ x :: l) (pre.length : Int) = x := by rw [Tr.rd_app0]; exact Tr.rd_cons0 _ _
    have e3 : wrap64 ((pre.length : Int) + 1) = ((pre ++ [x]).length : Int) := by rw [Tr.wrap_id (by omega) (by omega)]; simp
    refine Ev_succ ?_
    simp only [impl_orderCode.l0]
    refine evpos (by omega) (evpos (by omega) (evpos (by simp; omega) ?_))
    rw [e, e3]
    by_cases hx : x = (pre.length : Int)
    · refine evpos hx ?_
      have := ih (pre ++ [x]) N (by simpa using hN') hb (by
        rw [List.length_append, List.length_singleton]
        show pre ++ [x] = Tr.each (pre.length + 1) _
        rw [Tr.each_succ]
        show pre ++ [x] = Tr.upto pre.length ++ [(pre.length : Int)]
        rw [← hp, hx])
      simpa using this
    · refine evneg hx (evnow ?_)
      rw [if_neg]
      intro hq
      have h1 : rd (pre ++ x :: l) (pre.length : Int) = rd (Tr.upto (pre ++ x :: l).length) (pre.length : Int) := by rw [← hq]
      rw [e, Tr.upto_rd (by simp)] at h1
      exact hx h1
theorem ev_orderCode (d l : List Int) (hl : l.length ≤ 100000000) : Ev (fun k => impl_orderCode.f k d l) (Tr.codeO d l) := by
  unfold impl_orderCode.f Tr.codeO
  refine Ev.bind (ev_IsTree d) ?_
  cases hd : Tr.isT d with
  | false => exact evneg (by simp) (evnow (by simp))
  | true =>
    refine evpos rfl ?_
    rw [if_pos rfl, show slices_Clone.f l = some l by unfold slices_Clone.f; rw [if_pos hl]]
    refine evsome ?_
    rw [show slices_Sort.f l = some (Tr.msort l) by unfold slices_Sort.f; rw [if_pos hl]; rfl]
    refine evsome ?_
    by_cases hn : l.length = d.length
    · refine evpos (by omega) ?_
      have := ev_orderCode_l0 (Tr.msort l) [] (l.length : Int) (by simp [Tr.msort_len]) (by omega) rfl
      simp only [List.nil_append, List.length_nil, Tr.msort_len, hn] at this
      rw [← hn] at this
      have e : (Tr.isOrd d.length l) = (Tr.msort l = Tr.upto l.length) := by
        rw [eq_iff_iff, Tr.isOrd_sort, ← hn]; simp
      have e2 : (if Tr.isOrd d.length l then (0 : Int) else 2) = if Tr.msort l = Tr.upto l.length then 0 else 2 := by
        by_cases q : Tr.isOrd d.length l
        · rw [if_pos q, if_pos (e ▸ q)]
        · rw [if_neg q, if_neg (e ▸ q)]
      rw [e2]
      exact this
    · refine evneg (by omega) (evnow ?_)
      rw [if_neg]
      intro q; exact hn q.1
theorem ev_labelsOf_l0 {n : Nat} {l : List Int} (ho : Tr.isOrd n l) (hn : n ≤ 1000) : ∀ (r pre out : List Int), l = pre ++ r → out.length = n → (∀ v : Nat, v < n → (v : Int) ∈ pre → rd out (v : Int) = Tr.idx (v : Int) l 0) →
    Ev (fun k => impl_labelsOf.l0 k out l (n : Int) (pre.length : Int)) (Tr.labels l n) := by
  intro r
  induction r with
  | nil =>
    intro pre out hl hol hout
    have := ho.1
    refine Ev_succ ?_
    simp only [impl_labelsOf.l0]
    rw [List.append_nil] at hl
    refine evneg (by rw [← hl]; omega) (evnow ?_)
    refine Tr.each_eq hol (fun v hv => hout v hv ?_)
    rw [← hl]; exact (Tr.isOrd_mem ho).mpr (by omega)
  | cons x r ih =>
    intro pre out hl hol hout
    have hlen := ho.1
    have hll : l.length = pre.length + (r.length + 1) := by rw [hl]; simp
    have e : rd l (pre.length : Int) = x := by rw [hl, Tr.rd_app0]; exact Tr.rd_cons0 _ _
    have e3 : wrap64 ((pre.length : Int) + 1) = ((pre ++ [x]).length : Int) := by rw [Tr.wrap_id (by omega) (by omega)]; simp
    have hx := ho.2.2 x (by rw [hl]; simp)
    have hnx : x ∉ pre := by
      have := ho.2.1
      rw [hl, List.nodup_append] at this
      intro hxa
      exact this.2.2 x hxa x (by simp) rfl
    refine Ev_succ ?_
    simp only [impl_labelsOf.l0]
    refine evpos (by omega) (evpos (by omega) (evpos (by omega) ?_))
    rw [e, e3]
    refine evpos (by omega) (evpos (by omega) ?_)
    refine ih (pre ++ [x]) _ (by rw [hl]; simp) (by simpa using hol) (fun v hv hm => ?_)
    rw [Tr.rd_set (by omega) hx.1]
    by_cases hxv : x = (v : Int)
    · rw [if_pos hxv, hl, ← hxv, Tr.idx_at hnx]
    · rw [if_neg hxv]
      refine hout v hv ?_
      simp only [List.mem_append, List.mem_singleton] at hm
      rcases hm with hm | hm
      · exact hm
      · exact absurd hm.symm hxv
theorem ev_labelsOf {n : Nat} {l : List Int} (ho : Tr.isOrd n l) (hn : n ≤ 1000) : Ev (fun k => impl_labelsOf.f k l) (Tr.labels l n) := by
  unfold impl_labelsOf.f
  have := ho.1
  refine evpos (by omega) (evpos (by omega) ?_)
  have := ev_labelsOf_l0 ho hn l [] (List.replicate (l.length : Int).toNat 0) rfl (by simp; omega) (fun v _ hm => absurd hm (by simp))
  rw [ho.1] at this ⊢
  simpa using this
theorem ev_isGrowing_l0 {d : List Int} {t : Tr.F} (h : Tr.Tree d t) (l : List Int) : ∀ (m v : Nat), v + m = t.size → 1 ≤ v →
    Ev (fun k => impl_isGrowing.l0 k d (Tr.labels l t.size) (Tr.parentsL t) (v : Int)) (decide (∀ u : Nat, u < t.size → v ≤ u → Tr.idx (t.par 0 (-1) u) l 0 ≤ Tr.idx (u : Int) l 0)) := by
  have hle := h.le
  have hlen := h.len
  intro m
  induction m with
  | zero =>
    intro v hv h1
    refine Ev_succ ?_
    simp only [impl_isGrowing.l0]
    refine evneg (by omega) (evnow ?_)
    symm; rw [decide_eq_true_eq]
    intro u hu hvu; omega
  | succ m ih =>
    intro v hv h1
    have hvs : v < t.size := by omega
    have hpr : rd (Tr.parentsL t) (v : Int) = t.par 0 (-1) v := Tr.each_rd hvs
    have hpl : (Tr.parentsL t).length = t.size := Tr.each_len _ _
    have hll : (Tr.labels l t.size).length = t.size := Tr.each_len _ _
    have hpv := h.par_pos h1 hvs
    have e1 : rd (Tr.labels l t.size) (v : Int) = Tr.idx (v : Int) l 0 := Tr.each_rd hvs
    have e2 : rd (Tr.labels l t.size) (t.par 0 (-1) v) = Tr.idx (t.par 0 (-1) v) l 0 := by
      obtain ⟨p, hp⟩ := Int.eq_ofNat_of_zero_le hpv.1
      rw [hp] at hpv ⊢
      exact Tr.each_rd (by omega)
    refine Ev_succ ?_
    simp only [impl_isGrowing.l0]
    rw [hpr, e1, e2, hpl, hll, Tr.wrap_succ (by omega)]
    refine evpos (by omega) (evpos (by omega) (evpos (by omega) (evpos (by omega) (evpos (by omega) (evpos (by omega) ?_)))))
    by_cases hlt : Tr.idx (v : Int) l 0 < Tr.idx (t.par 0 (-1) v) l 0
    · refine evpos hlt (evnow ?_)
      symm; rw [decide_eq_false_iff_not]
      intro hq
      have := hq v hvs (Nat.le_refl _)
      omega
    · refine evneg hlt ?_
      have e : (∀ u : Nat, u < t.size → v ≤ u → Tr.idx (t.par 0 (-1) u) l 0 ≤ Tr.idx (u : Int) l 0) ↔ (∀ u : Nat, u < t.size → v + 1 ≤ u → Tr.idx (t.par 0 (-1) u) l 0 ≤ Tr.idx (u : Int) l 0) := by
        constructor
        · intro hq u hu hvu; exact hq u hu (by omega)
        · intro hq u hu hvu
          rcases Nat.lt_or_ge v u with q | q
          · exact hq u hu q
          · have : u = v := by omega
            subst this; omega
      rw [decide_eq_decide.mpr e]
      exact ih (v + 1) (by omega) (by omega)
theorem ev_isGrowing {d : List Int} {t : Tr.F} (h : Tr.Tree d t) {l : List Int} (ho : Tr.isOrd d.length l) : Ev (fun k => impl_isGrowing.f k d l) (Tr.growing t l) := by
  have hle := h.le
  have hlen := h.len
  have hpos := h.pos
  rw [hlen] at ho
  unfold impl_isGrowing.f
  refine Ev.bind (ev_labelsOf ho (by omega)) (Ev.bind (ev_parentsOf h) ?_)
  have := ev_isGrowing_l0 h l (t.size - 1) 1 (by omega) (by omega)
  have e : (∀ u : Nat, u < t.size → 1 ≤ u → Tr.idx (t.par 0 (-1) u) l 0 ≤ Tr.idx (u : Int) l 0) ↔ Tr.grows t [] l = true := by
    rw [Tr.grows_pos h ho]
    constructor
    · intro q v h1 h2; exact q v h2 h1
    · intro q v h1 h2; exact q v h2 h1
  have e' : decide (∀ u : Nat, u < t.size → 1 ≤ u → Tr.idx (t.par 0 (-1) u) l 0 ≤ Tr.idx (u : Int) l 0) = Tr.growing t l := by
    rw [Bool.eq_iff_iff, decide_eq_true_eq]; exact e
  rw [e'] at this
  exact this
theorem ev_growingCode_bad {d : List Int} (h : Tr.isT d = false) (l : List Int) (hl : l.length ≤ 100000000) : Ev (fun k => impl_growingCode.f k d l) 1 := by
  unfold impl_growingCode.f
  refine Ev.bind (ev_orderCode d l hl) ?_
  have e : Tr.codeO d l = 1 := by unfold Tr.codeO; simp [h]
  rw [e]; exact evneg (by omega) (Ev.now _)
theorem ev_growingCode {d : List Int} {t : Tr.F} (h : Tr.Tree d t) (l : List Int) (hl : l.length ≤ 100000000) : Ev (fun k => impl_growingCode.f k d l) (Tr.codeG d l t) := by
  unfold impl_growingCode.f
  refine Ev.bind (ev_orderCode d l hl) ?_
  unfold Tr.codeO Tr.codeG
  rw [if_pos h.isT]
  by_cases ho : Tr.isOrd d.length l
  · rw [if_pos ho, if_pos ho]
    refine evpos rfl (Ev.bind (ev_isGrowing h ho) ?_)
    cases hg : Tr.growing t l with
    | true => exact evpos rfl (evnow (by simp))
    | false => exact evneg (by simp) (evnow (by simp))
  · rw [if_neg ho, if_neg ho]
    exact evneg (by omega) (Ev.now _)
theorem deg_range {d : List Int} {t : Tr.F} (h : Tr.Tree d t) {v : Nat} (hv : v < t.size) : 0 ≤ rd d (v : Int) ∧ rd d (v : Int) ≤ 24 := by
  have h1 := h.deg hv
  have h2 := h.fits hv
  have h3 := Tr.F.len_le (t.sub v)
  have h4 := h.few
  omega
def takeOutL (d : List Int) (t : Tr.F) (v : Nat) : List Int := (d.take v ++ d.drop (v + 1)).set (t.par 0 (-1) v).toNat (rd d (t.par 0 (-1) v) + rd d (v : Int) - 1)
theorem rd_take {d : List Int} {v p : Nat} (h : p < v) (hv : v ≤ d.length) : rd (d.take v) (p : Int) = rd d (p : Int) := by
  have e : rd d (p : Int) = rd (d.take v ++ d.drop v) (p : Int) := by rw [List.take_append_drop]
  rw [e, Tr.rd_left _ _ _ (by omega) (by simp; omega)]
def putAt (t : Tr.F) (p : Nat) (i : Int) : Int := if i < ((t.sub p).len : Int) then rd ((t.sub p).roots (p + 1)) i else ((p + 1 + (t.sub p).size : Nat) : Int)
theorem putAt_range {d : List Int} {t : Tr.F} (h : Tr.Tree d t) {p : Nat} (hp : p < t.size) {i : Int} (h0 : 0 ≤ i) : ∃ a : Nat, putAt t p i = (a : Int) ∧ p + 1 ≤ a ∧ a ≤ t.size := by
  have hf := h.fits hp
  unfold putAt
  by_cases hi : i < ((t.sub p).len : Int)
  · rw [if_pos hi]
    have hl := Tr.F.roots_len (t.sub p) (p + 1)
    have hm := Tr.rd_mem (l := (t.sub p).roots (p + 1)) h0 (by omega)
    have hr := Tr.F.roots_range _ _ _ hm
    obtain ⟨a, ha⟩ := Int.eq_ofNat_of_zero_le (show 0 ≤ rd ((t.sub p).roots (p + 1)) i by omega)
    exact ⟨a, ha, by omega, by omega⟩
  · rw [if_neg hi]
    exact ⟨_, rfl, by omega, by omega⟩
def putInL (d : List Int) (p a : Nat) (k : Int) : List Int := (d.set p (rd d (p : Int) + 1 - k)).take a ++ [k] ++ (d.set p (rd d (p : Int) + 1 - k)).drop a
theorem putInL_eq {d : List Int} {p a : Nat} (k : Int) (hp : p < a) (ha : a ≤ d.length) : (d.take a ++ [k] ++ d.drop a).set p (rd d (p : Int) + 1 - k) = putInL d p a k := by
  unfold putInL
  rw [List.take_set, List.drop_set_of_lt (by omega), List.append_assoc, List.set_append_left _ _ (by simp; omega), List.append_assoc]
theorem putInL_len {d : List Int} {p a : Nat} {k : Int} (ha : a ≤ d.length) : (putInL d p a k).length = d.length + 1 := by
  unfold putInL; simp; omega
theorem gt_kf : ∀ (xs p : List Int) (K : List (List Int)), Gt.Kids K p → (Gt.ok xs p.length = true → ∃ K', impl_GrownTree.kf xs p.length K = some K' ∧ Gt.Kids K' (p ++ xs)) ∧ (Gt.ok xs p.length = false → impl_GrownTree.kf xs p.length K = none) := by
  intro xs
  induction xs with
  | nil => intro p K h; exact ⟨fun _ => ⟨K, rfl, by simpa using h⟩, fun h => by cases h⟩
  | cons x xs ih =>
    intro p K h
    rw [impl_GrownTree.kf, Gt.ok]
    by_cases hx : 0 ≤ x ∧ x ≤ (p.length : Int)
    · have h2 := ih (p ++ [x]) _ (Gt.kids_snoc h hx.1 hx.2)
      rw [decide_eq_true hx, Bool.true_and]
      rw [if_neg (show ¬ (x < 0 ∨ x > (p.length : Int)) by omega)]
      simpa [List.append_assoc] using h2
    · rw [decide_eq_false hx, Bool.false_and]
      rw [if_pos (show x < 0 ∨ x > (p.length : Int) by omega)]
      exact ⟨fun h => (by cases h), fun _ => rfl⟩
theorem gt_gl {q : List Int} {f : Int → List Int × List Int → Option (List Int × List Int)} {m n : Nat} : ∀ (cs T G : List Int),
    (∀ c ∈ cs, ∀ T G : List Int, G.length = n → T.length + (Gt.wd q m c).length ≤ 1000 → f c (T, G) = some (T ++ Gt.wd q m c, Gt.place T.length (Gt.wl q m c) G)) → G.length = n → T.length + (cs.flatMap (Gt.wd q m)).length ≤ 1000 →
    Gw.gl f cs (T, G) = some (T ++ cs.flatMap (Gt.wd q m), Gt.place T.length (cs.flatMap (Gt.wl q m)) G) := by
  intro cs
  induction cs with
  | nil => intro T G _ _ _; simp [Gw.gl, Gt.place]
  | cons c cs ih =>
    intro T G hf hG hT
    rw [List.flatMap_cons, List.length_append] at hT
    rw [Gw.gl, hf c (by simp) T G hG (by omega), Option.bind_some, ih _ _ (fun y hy => hf y (by simp [hy])) (by rw [Gt.place_len]; exact hG) (by rw [List.length_append]; omega), List.flatMap_cons, List.flatMap_cons, Gt.place_append, List.append_assoc, List.length_append, Gt.wd_len]
theorem gt_gw {K : List (List Int)} {q : List Int} (hq : Gt.Grows q) (hK : Gt.Kids K q) (hn : q.length ≤ 1000) : ∀ (m : Nat) (l : Int) (T G : List Int), 0 ≤ l → l ≤ (q.length : Int) → (q.length : Int) - l < m → G.length = q.length + 1 → T.length + (Gt.wd q m l).length ≤ 1000 →
    Gw.gw K m l (T, G) = some (T ++ Gt.wd q m l, Gt.place T.length (Gt.wl q m l) G) := by
  intro m
  induction m with
  | zero => intro l T G h0 h1 h2 h3 h4; omega
  | succ m ih =>
    intro l T G h0 h1 h2 h3 h4
    have hk := hK.2 l.toNat
    rw [Int.toNat_of_nonneg h0] at hk
    have hc := Gt.ch_len_le l q 0
    have hKl := hK.1
    rw [Gt.wd, List.length_cons] at h4
    rw [Gw.gw, hk, if_pos ⟨h0, by omega, by dsimp only; omega, by dsimp only; omega, by omega⟩]
    dsimp only
    rw [gt_gl (q := q) (m := m) (n := q.length + 1) _ _ _ (fun c hcm T G hG hT => by have h5 := Gt.ch_kid hq hcm; exact ih c T G (by omega) (by omega) (by omega) hG hT) (by rw [List.length_set]; exact h3) (by rw [List.length_append, List.length_singleton]; omega)]
    rw [Gt.wd, Gt.wl, Gt.place, List.append_assoc, List.length_append, List.length_singleton]
    rfl
theorem gt_ok : ∀ (xs : List Int) (i : Nat), (∀ (j : Nat) (x : Int), xs[j]? = some x → 0 ≤ x ∧ x ≤ ((i + j : Nat) : Int)) → Gt.ok xs i = true := by
  intro xs
  induction xs with
  | nil => intro i _; rfl
  | cons y ys ih =>
    intro i h
    have h0 := h 0 y rfl
    rw [Gt.ok, decide_eq_true (by omega), Bool.true_and]
    exact ih (i + 1) (fun j x hx => by have := h (j + 1) x (by simpa using hx); omega)
theorem ev_impl_GrownTree (l0 : List Int) (hn1 : l0.length ≤ 23) (hq : Gt.Grows l0) : Ev (fun k => impl_GrownTree.f k l0) (Gt.wd l0 (l0.length + 1) 0, Gt.place 0 (Gt.wl l0 (l0.length + 1) 0) (List.replicate (l0.length + 1) 0), 0) := by
  have hk0 : Gt.Kids [[]] ([] : List Int) := ⟨rfl, fun j => by cases j <;> rfl⟩
  have hkf := gt_kf l0 [] [[]] hk0
  have hok : Gt.ok l0 0 = true := gt_ok l0 0 (fun j x hx => by have := hq j x hx; omega)
  have hlen := Gt.wl_len hq (l0.length + 1) (by omega)
  have hdlen := Gt.wd_len l0 (l0.length + 1) 0
  unfold impl_GrownTree.f
  refine evneg (by omega) ?_
  obtain ⟨K, h1, h2⟩ := hkf.1 hok
  rw [show impl_GrownTree.kf l0 0 [[]] = some K from h1]
  rw [List.nil_append] at h2
  refine ⟨l0.length + 1, fun k hk => ?_⟩
  have hf := Gt.fuel hq k (l0.length + 1) 0 (by omega) (by omega) (by omega)
  have h3 := gt_gw hq h2 (by omega) k 0 [] (List.replicate K.length 0) (by omega) (by omega) (by omega) (by rw [List.length_replicate]; exact h2.1) (by rw [hf.2, List.length_nil]; omega)
  show ((Gw.gw K k 0 ([], List.replicate K.length 0)).bind fun s => some (s.1, s.2, 0)) = _
  rw [h3, hf.1, hf.2, h2.1]
  rfl
theorem ev_slices_Equal_l0 (xs ys : List Int) (hl : xs.length = ys.length) (hb : xs.length ≤ 1000000) : ∀ (n i : Nat), i + n = xs.length → Ev (fun k => slices_Equal_int64_int64.l0 k xs ys (xs.length : Int) (i : Int)) (decide (xs.drop i = ys.drop i)) := by
  intro n
  induction n with
  | zero =>
    intro i hi
    refine Ev_succ ?_
    simp only [slices_Equal_int64_int64.l0]
    refine evneg (by omega) (evnow ?_)
    rw [List.drop_of_length_le (by omega), List.drop_of_length_le (by omega)]; rfl
  | succ n ih =>
    intro i hi
    refine Ev_succ ?_
    simp only [slices_Equal_int64_int64.l0]
    refine evpos (by omega) (evpos (by omega) (evpos (by omega) (evpos (by omega) ?_)))
    rw [Tr.rd_getElem (by omega : i < xs.length), Tr.rd_getElem (by omega : i < ys.length), Tr.wrap_succ (by omega)]
    have e3 : (xs.drop i = ys.drop i) = (xs[i] = ys[i] ∧ xs.drop (i + 1) = ys.drop (i + 1)) := by
      rw [List.drop_eq_getElem_cons (by omega : i < xs.length), List.drop_eq_getElem_cons (by omega : i < ys.length)]
      exact List.cons.injEq _ _ _ _
    have e4 : decide (xs.drop i = ys.drop i) = decide (xs[i] = ys[i] ∧ xs.drop (i + 1) = ys.drop (i + 1)) := by simp only [e3]
    rw [e4]
    by_cases h : xs[i] = ys[i]
    · refine evpos h ?_
      have := ih (i + 1) (by omega)
      rw [show decide (xs[i] = ys[i] ∧ xs.drop (i + 1) = ys.drop (i + 1)) = decide (xs.drop (i + 1) = ys.drop (i + 1)) by simp only [h, true_and]]
      exact this
    · refine evneg h (evnow ?_)
      simp only [h, false_and, decide_false]
theorem ev_slices_Equal (xs ys : List Int) (hb : xs.length ≤ 1000000) : Ev (fun k => slices_Equal_int64_int64.f k xs ys) (decide (xs = ys)) := by
  unfold slices_Equal_int64_int64.f
  by_cases h : xs.length = ys.length
  · refine evpos (by omega) ?_
    have := ev_slices_Equal_l0 xs ys h hb xs.length 0 (by omega)
    simpa using this
  · refine evneg (by omega) (evnow ?_)
    rw [eq_comm, decide_eq_false_iff_not]
    intro e; exact h (by rw [e])
theorem cmp_Compare_eq (a b : Int) : cmp_Compare_int64.f a b = some (if a < b then -1 else if a > b then 1 else 0) := by
  unfold cmp_Compare_int64.f cmp_isNaN_int64.f
  simp only [bne_self_eq_false, Option.bind_some, Bool.false_eq_true, if_false]
  split
  · rfl
  · split <;> rfl
theorem ev_slices_Compare_l0 (xs ys : List Int) (hl : xs.length = ys.length) (hb : xs.length ≤ 1000000) : ∀ (n i : Nat), i + n = xs.length → ∃ c : Int, Ev (fun k => slices_Compare_int64_int64.l0 k xs ys xs (xs.length : Int) (i : Int)) c ∧ (c = 0 ↔ xs.drop i = ys.drop i) := by
  intro n
  induction n with
  | zero =>
    intro i hi
    refine ⟨0, Ev_succ ?_, ?_⟩
    · simp only [slices_Compare_int64_int64.l0]
      exact evneg (by omega) (evneg (by omega) (Ev.now _))
    · rw [List.drop_of_length_le (by omega), List.drop_of_length_le (by omega)]; simp
  | succ n ih =>
    intro i hi
    have hx : rd xs (i : Int) = xs[i] := Tr.rd_getElem (by omega)
    have hy : rd ys (i : Int) = ys[i] := Tr.rd_getElem (by omega)
    have e3 : (xs.drop i = ys.drop i) ↔ (xs[i] = ys[i] ∧ xs.drop (i + 1) = ys.drop (i + 1)) := by
      rw [List.drop_eq_getElem_cons (by omega : i < xs.length), List.drop_eq_getElem_cons (by omega : i < ys.length)]
      exact List.cons_eq_cons
    obtain ⟨c, h1, h2⟩ := ih (i + 1) (by omega)
    by_cases h : xs[i] = ys[i]
    · refine ⟨c, Ev_succ ?_, ?_⟩
      · simp only [slices_Compare_int64_int64.l0]
        refine evpos (by omega) (evpos (by omega) (evpos (by omega) (evneg (by omega) (evpos (by omega) ?_))))
        rw [hx, hy, cmp_Compare_eq, h, if_neg (by omega), if_neg (by omega), Tr.wrap_succ (by omega)]
        exact evsome (evpos rfl h1)
      · rw [e3, h2]; simp [h]
    · refine ⟨if xs[i] < ys[i] then -1 else if xs[i] > ys[i] then 1 else 0, Ev_succ ?_, ?_⟩
      · simp only [slices_Compare_int64_int64.l0]
        refine evpos (by omega) (evpos (by omega) (evpos (by omega) (evneg (by omega) (evpos (by omega) ?_))))
        rw [hx, hy, cmp_Compare_eq]
        refine evsome (evneg ?_ (Ev.now _))
        split
        · omega
        · split <;> omega
      · rw [e3]
        constructor
        · intro hc
          split at hc
          · omega
          · split at hc
            · omega
            · omega
        · rintro ⟨hc, _⟩; exact absurd hc h
theorem ev_impl_compareTrees (xs ys : List Int) (hb : xs.length ≤ 1000000) (hb2 : ys.length ≤ 1000000) : ∃ c : Int, Ev (fun k => impl_compareTrees.f k xs ys) c ∧ (c = 0 ↔ xs = ys) := by
  have hw : wrap64 ((xs.length : Int) - (ys.length : Int)) = (xs.length : Int) - (ys.length : Int) := Tr.wrap_id (by omega) (by omega)
  by_cases h : xs.length = ys.length
  · obtain ⟨c, h1, h2⟩ := ev_slices_Compare_l0 xs ys h hb xs.length 0 (by omega)
    refine ⟨c, ?_, by simpa using h2⟩
    unfold impl_compareTrees.f
    rw [hw]
    refine evpos (by omega) (Ev.bind (a := c) ?_ (Ev.now _))
    unfold slices_Compare_int64_int64.f
    exact h1
  · refine ⟨(xs.length : Int) - (ys.length : Int), ?_, ⟨fun hc => absurd hc (by omega), fun hc => absurd (congrArg List.length hc) h⟩⟩
    unfold impl_compareTrees.f
    rw [hw]
    exact evneg (by omega) (Ev.now _)
def gfn (t : Tr.F) (l : List Int) : Nat → Int := fun j => Tr.idx (t.par 0 (-1) (rd l ((j + 1 : Nat) : Int)).toNat) l 0
theorem gfn_at {d : List Int} {t : Tr.F} (h : Tr.Tree d t) {l : List Int} (ho : Tr.isOrd t.size l) (hg : Tr.growing t l = true) {j : Nat} (hj : j + 1 < t.size) : (0 ≤ rd l ((j + 1 : Nat) : Int) ∧ rd l ((j + 1 : Nat) : Int) < t.size) ∧ rd (Tr.parentsL t) (rd l ((j + 1 : Nat) : Int)) = t.par 0 (-1) (rd l ((j + 1 : Nat) : Int)).toNat ∧ (0 ≤ t.par 0 (-1) (rd l ((j + 1 : Nat) : Int)).toNat ∧ t.par 0 (-1) (rd l ((j + 1 : Nat) : Int)).toNat < t.size) ∧ rd (Tr.labels l t.size) (t.par 0 (-1) (rd l ((j + 1 : Nat) : Int)).toNat) = gfn t l j := by
  have G : Lg.Gro d t l (Tr.each (t.size - 1) (gfn t l)) := ⟨h, ho, hg, by rw [Tr.each_len]; have := h.pos; omega, fun i hi => by
    rw [Tr.each_len] at hi
    have h1 := Tr.each_rd (f := gfn t l) hi
    rw [Tr.rd_getElem (by rw [Tr.each_len]; exact hi)] at h1
    rw [List.getElem?_eq_getElem (by rw [Tr.each_len]; exact hi), h1]; rfl⟩
  obtain ⟨v, h1, h2, h3, h4, h5⟩ := G.at_ (j := j) (by rw [Tr.each_len]; omega)
  have h6 := G.below h1 h2
  unfold gfn
  rw [h3, Int.toNat_natCast]
  obtain ⟨p, hp⟩ := Int.eq_ofNat_of_zero_le h6.1
  refine ⟨by omega, Tr.each_rd h2, by omega, ?_⟩
  rw [hp]
  exact Tr.each_rd (by omega)
theorem gfn_gro {d : List Int} {t : Tr.F} (h : Tr.Tree d t) {l : List Int} (ho : Tr.isOrd t.size l) (hg : Tr.growing t l = true) : Lg.Gro d t l (Tr.each (t.size - 1) (gfn t l)) :=
  ⟨h, ho, hg, by rw [Tr.each_len]; have := h.pos; omega, fun i hi => by
    rw [Tr.each_len] at hi
    have h1 := Tr.each_rd (f := gfn t l) hi
    rw [Tr.rd_getElem (by rw [Tr.each_len]; exact hi)] at h1
    rw [List.getElem?_eq_getElem (by rw [Tr.each_len]; exact hi), h1]; rfl⟩
theorem ev_impl_ListOfGrowth_l0 {d : List Int} {t : Tr.F} (h : Tr.Tree d t) {l : List Int} (ho : Tr.isOrd t.size l) (hg : Tr.growing t l = true) : ∀ (m i : Nat), i + m = t.size - 1 →
    Ev (fun k => impl_ListOfGrowth.l0 k l (Tr.labels l t.size) (Tr.parentsL t) (Tr.each i (gfn t l)) (l.drop 1) ((l.drop 1).length : Int) (i : Int) d) (if Lg.whole t l then (Tr.each (t.size - 1) (gfn t l), 0) else ([], 4)) := by
  have hle := h.le
  have hlen := h.len
  have hpos := h.pos
  have hll := ho.1
  have hdl : (l.drop 1).length = t.size - 1 := by rw [List.length_drop]; omega
  intro m
  induction m with
  | zero =>
    intro i hi
    have hie : i = t.size - 1 := by omega
    subst hie
    have G := gfn_gro h ho hg
    have hql : (Tr.each (t.size - 1) (gfn t l)).length = t.size - 1 := Tr.each_len _ _
    have hwl := Gt.wl_len G.grows ((Tr.each (t.size - 1) (gfn t l)).length + 1) (by omega)
    have hdl2 := Gt.wd_len (Tr.each (t.size - 1) (gfn t l)) ((Tr.each (t.size - 1) (gfn t l)).length + 1) 0
    refine Ev_succ ?_
    simp only [impl_ListOfGrowth.l0]
    refine evneg (by rw [hdl]; omega) (Ev.bind (ev_impl_GrownTree _ (by omega) G.grows) ?_)
    dsimp only
    obtain ⟨c, hc1, hc2⟩ := ev_impl_compareTrees d (Gt.wd (Tr.each (t.size - 1) (gfn t l)) ((Tr.each (t.size - 1) (gfn t l)).length + 1) 0) (by omega) (by omega)
    refine Ev.bind hc1 ?_
    have hm := G.main
    generalize Gt.wd (Tr.each (t.size - 1) (gfn t l)) ((Tr.each (t.size - 1) (gfn t l)).length + 1) 0 = u at hc1 hc2 hm ⊢
    by_cases hu : d = u
    · refine evpos (hc2.mpr hu) (Ev.bind (ev_slices_Equal _ _ (by rw [Gt.place_len, List.length_replicate]; omega)) ?_)
      generalize Gt.place 0 (Gt.wl (Tr.each (t.size - 1) (gfn t l)) ((Tr.each (t.size - 1) (gfn t l)).length + 1) 0) (List.replicate ((Tr.each (t.size - 1) (gfn t l)).length + 1) 0) = o at hm ⊢
      by_cases hol : o = l
      · rw [if_pos (hm.mpr ⟨hu.symm, hol⟩)]
        exact evpos (by simpa using hol) (Ev.now _)
      · rw [if_neg (fun e => hol (hm.mp e).2)]
        exact evneg (by simpa using hol) (Ev.now _)
    · rw [if_neg (fun e => hu (hm.mp e).1.symm)]
      exact evneg (fun e => hu (hc2.mp e)) (Ev.now _)
  | succ m ih =>
    intro i hi
    obtain ⟨h1, h2, h3, h4⟩ := gfn_at h ho hg (j := i) (by omega)
    have hpl : (Tr.parentsL t).length = t.size := Tr.each_len _ _
    have hlb : (Tr.labels l t.size).length = t.size := Tr.each_len _ _
    have hdr : rd (l.drop 1) (i : Int) = rd l ((i + 1 : Nat) : Int) := by
      rw [Tr.rd_getElem (by rw [hdl]; omega), Tr.rd_getElem (by omega), List.getElem_drop]
      congr 1; omega
    refine Ev_succ ?_
    simp only [impl_ListOfGrowth.l0]
    rw [hdr, h2, h4, hdl, hpl, hlb, Tr.wrap_succ (by omega), Tr.each_len]
    refine evpos (by omega) (evpos (by omega) (evpos (by omega) (evpos h1.1 (evpos h1.2 (evpos h3.1 (evpos h3.2 (evpos (by omega) ?_)))))))
    have := ih (i + 1) (by omega)
    rw [Tr.each_succ, hdl] at this
    exact this
theorem ev_spec_ListOfGrowth_l3 {d : List Int} {t : Tr.F} {l q : List Int} (h : Tr.Tree d t) {v : Nat} (hv : v < t.size) {r2 : List Int × Int} (hr2 : Ev (fun k => spec_ListOfGrowth.l2 k (Tr.labels l t.size) q ((v + 1 : Nat) : Int) d) r2) : ∀ (xs : List Int) (i : Nat), ((t.sub v).roots (v + 1)).drop i = xs → i + xs.length = ((t.sub v).roots (v + 1)).length →
    Ev (fun k => spec_ListOfGrowth.l3 k (Tr.labels l t.size) q (v : Int) ((t.sub v).roots (v + 1)) ((i + 1 : Nat) : Int) d) (if Lg.asc (xs.map (fun c => Tr.idx c l 0)) then r2 else ([], 4)) := by
  have hle := h.le
  have hlen := h.len
  have hkl : ((t.sub v).roots (v + 1)).length ≤ 24 := by
    rw [Tr.F.roots_len]
    have h1 := (t.sub v).len_le
    have h2 := h.fits hv
    omega
  have hlb : (Tr.labels l t.size).length = t.size := Tr.each_len _ _
  have hC : ∀ (j : Nat) (hj : j < ((t.sub v).roots (v + 1)).length), ∃ u : Nat, ((t.sub v).roots (v + 1))[j] = (u : Int) ∧ u < t.size := fun j hj => by
    have h1 := h.kid_range hv (List.getElem_mem hj)
    obtain ⟨u, hu⟩ := Int.eq_ofNat_of_zero_le (show 0 ≤ ((t.sub v).roots (v + 1))[j] by omega)
    exact ⟨u, hu, by omega⟩
  generalize (t.sub v).roots (v + 1) = C at hkl hC ⊢
  intro xs
  induction xs with
  | nil =>
    intro i hd hi
    simp only [List.length_nil] at hi
    refine Ev_succ ?_
    simp only [spec_ListOfGrowth.l3]
    rw [Tr.wrap_succ (i := v) (by omega)]
    exact evneg (by omega) hr2
  | cons x xs ih =>
    intro i hd hi
    rw [List.length_cons] at hi
    have hi2 : i < C.length := by omega
    have hx : C[i] = x ∧ C.drop (i + 1) = xs := by
      rw [List.drop_eq_getElem_cons hi2] at hd
      exact ⟨(List.cons.inj hd).1, (List.cons.inj hd).2⟩
    cases xs with
    | nil =>
      simp only [List.length_nil] at hi
      refine Ev_succ ?_
      simp only [spec_ListOfGrowth.l3]
      rw [Tr.wrap_succ (i := v) (by omega)]
      exact evneg (by omega) hr2
    | cons y ys =>
      rw [List.length_cons] at hi
      have hi3 : i + 1 < C.length := by omega
      have hy : C[i + 1] = y := by
        have := hx.2
        rw [List.drop_eq_getElem_cons hi3] at this
        exact (List.cons.inj this).1
      obtain ⟨a, ha1, ha2⟩ := hC i hi2
      obtain ⟨b, hb1, hb2⟩ := hC (i + 1) hi3
      rw [hx.1] at ha1
      rw [hy] at hb1
      have e1 : wrap64 (((i + 1 : Nat) : Int) - 1) = (i : Int) := by rw [Tr.wrap_id (by omega) (by omega)]; omega
      have ra : rd (Tr.labels l t.size) (a : Int) = Tr.idx (a : Int) l 0 := Tr.each_rd ha2
      have rb : rd (Tr.labels l t.size) (b : Int) = Tr.idx (b : Int) l 0 := Tr.each_rd hb2
      have h0 := ih (i + 1) hx.2 (by rw [List.length_cons]; omega)
      refine Ev_succ ?_
      simp only [spec_ListOfGrowth.l3, e1]
      clear e1
      rw [Tr.rd_getElem hi2, Tr.rd_getElem hi3, hx.1, hy, ha1, hb1, ra, rb, hlb, Tr.wrap_succ (by omega)]
      refine evpos (by omega) (evpos (by omega) (evpos (by omega) (evpos (by omega) (evpos (by omega) (evpos (by omega) (evpos (by omega) (evpos (by omega) ?_)))))))
      rw [List.map_cons, List.map_cons, Lg.asc]
      rw [List.map_cons, hb1] at h0
      by_cases hgt : Tr.idx (a : Int) l 0 > Tr.idx (b : Int) l 0
      · rw [decide_eq_false (fun h_ => h_ hgt), Bool.false_and]
        exact evpos hgt (Ev.now _)
      · rw [decide_eq_true hgt, Bool.true_and]
        exact evneg hgt h0
theorem ev_spec_ListOfGrowth_l2 {d : List Int} {t : Tr.F} {l q : List Int} (h : Tr.Tree d t) : ∀ (m v : Nat), v + m = t.size →
    Ev (fun k => spec_ListOfGrowth.l2 k (Tr.labels l t.size) q (v : Int) d) (if (List.range' v m).all (fun v => Lg.asc (Lg.kl t l v)) then (q, 0) else ([], 4)) := by
  have hle := h.le
  have hlen := h.len
  intro m
  induction m with
  | zero =>
    intro v hv
    refine Ev_succ ?_
    simp only [spec_ListOfGrowth.l2, l01N_eq]
    exact evsome (evneg (by omega) (Ev.now _))
  | succ m ih =>
    intro v hv
    have hvs : v < t.size := by omega
    obtain ⟨n', hn'⟩ := h.node hvs
    refine Ev_succ ?_
    simp only [spec_ListOfGrowth.l2, l01N_eq]
    refine evsome (evpos (by omega) (Ev.bind (ev_l01Children (by omega) hn') ?_))
    have h3 := ev_spec_ListOfGrowth_l3 (l := l) (q := q) h hvs (ih (v + 1) (by omega)) ((t.sub v).roots (v + 1)) 0 rfl (by omega)
    rw [List.range'_succ, List.all_cons]
    show Ev _ (if (Lg.asc (((t.sub v).roots (v + 1)).map (fun c => Tr.idx c l 0)) && _) = true then _ else _)
    cases ha : Lg.asc (((t.sub v).roots (v + 1)).map (fun c => Tr.idx c l 0)) with
    | true => rw [ha] at h3; exact h3
    | false => rw [ha] at h3; exact h3
theorem ev_spec_ListOfGrowth_l1 {d : List Int} {t : Tr.F} (h : Tr.Tree d t) {l : List Int} (ho : Tr.isOrd t.size l) (hg : Tr.growing t l = true) : ∀ (m i : Nat), i + m = t.size - 1 →
    Ev (fun k => spec_ListOfGrowth.l1 k l (Tr.parentsL t) (Tr.labels l t.size) (Tr.each i (gfn t l)) ((i + 1 : Nat) : Int) d) (if Lg.whole t l then (Tr.each (t.size - 1) (gfn t l), 0) else ([], 4)) := by
  have hle := h.le
  have hlen := h.len
  have hpos := h.pos
  have hll := ho.1
  intro m
  induction m with
  | zero =>
    intro i hi
    have hie : i = t.size - 1 := by omega
    subst hie
    refine Ev_succ ?_
    simp only [spec_ListOfGrowth.l1]
    refine evneg (by omega) ?_
    have := ev_spec_ListOfGrowth_l2 (l := l) (q := Tr.each (t.size - 1) (gfn t l)) h t.size 0 (by omega)
    rw [← List.range_eq_range'] at this
    exact this
  | succ m ih =>
    intro i hi
    obtain ⟨h1, h2, h3, h4⟩ := gfn_at h ho hg (j := i) (by omega)
    have hpl : (Tr.parentsL t).length = t.size := Tr.each_len _ _
    have hlb : (Tr.labels l t.size).length = t.size := Tr.each_len _ _
    refine Ev_succ ?_
    simp only [spec_ListOfGrowth.l1]
    rw [h2, h4, hpl, hlb, Tr.wrap_succ (by omega), Tr.each_len]
    refine evpos (by omega) (evpos (by omega) (evpos h1.1 (evpos h1.2 (evpos h3.1 (evpos h3.2 (evpos (by omega) ?_))))))
    have := ih (i + 1) (by omega)
    rw [Tr.each_succ] at this
    exact this
theorem ev_spec_ListOfGrowth_l0 {d : List Int} {t : Tr.F} {l : List Int} {r2 : List Int × Int} (ho : Tr.isOrd t.size l) (hn : t.size ≤ 1000) (hr2 : Ev (fun k => spec_ListOfGrowth.l1 k l (Tr.parentsL t) (Tr.labels l t.size) [] 1 d) r2) : ∀ (r pre out : List Int), l = pre ++ r → out.length = t.size → (∀ v : Nat, v < t.size → (v : Int) ∈ pre → rd out (v : Int) = Tr.idx (v : Int) l 0) →
    Ev (fun k => spec_ListOfGrowth.l0 k l (Tr.parentsL t) out [] (pre.length : Int) d) r2 := by
  intro r
  induction r with
  | nil =>
    intro pre out hl hol hout
    have := ho.1
    rw [List.append_nil] at hl
    have e : out = Tr.labels l t.size := Tr.each_eq hol (fun v hv => hout v hv (by rw [← hl]; exact (Tr.isOrd_mem ho).mpr (by omega)))
    refine Ev_succ ?_
    simp only [spec_ListOfGrowth.l0]
    refine evneg (by rw [← hl]; omega) ?_
    rw [e]; exact hr2
  | cons x r ih =>
    intro pre out hl hol hout
    have hlen := ho.1
    have hll : l.length = pre.length + (r.length + 1) := by rw [hl]; simp
    have e : rd l (pre.length : Int) = x := by rw [hl, Tr.rd_app0]; exact Tr.rd_cons0 _ _
    have e3 : wrap64 ((pre.length : Int) + 1) = ((pre ++ [x]).length : Int) := by rw [Tr.wrap_id (by omega) (by omega)]; simp
    have hx := ho.2.2 x (by rw [hl]; simp)
    have hnx : x ∉ pre := by
      have := ho.2.1
      rw [hl, List.nodup_append] at this
      intro hxa
      exact this.2.2 x hxa x (by simp) rfl
    refine Ev_succ ?_
    simp only [spec_ListOfGrowth.l0]
    refine evpos (by omega) (evpos (by omega) ?_)
    rw [e, e3]
    refine evpos (by omega) (evpos (by omega) ?_)
    refine ih (pre ++ [x]) _ (by rw [hl]; simp) (by simpa using hol) (fun v hv hm => ?_)
    rw [Tr.rd_set (by omega) hx.1]
    by_cases hxv : x = (v : Int)
    · rw [if_pos hxv, hl, ← hxv, Tr.idx_at hnx]
    · rw [if_neg hxv]
      refine hout v hv ?_
      simp only [List.mem_append, List.mem_singleton] at hm
      rcases hm with hm | hm
      · exact hm
      · exact absurd hm.symm hxv
theorem ev_ListOfGrowth (d l : List Int) (hl : l.length ≤ 100000000) : ∃ r : List Int × Int, Ev (fun k => spec_ListOfGrowth.f k d l) r ∧ Ev (fun k => impl_ListOfGrowth.f k d l) r ∧ r.1.length ≤ 1000 := by
  rcases Tr.isT_cases d with h | ⟨t, h⟩
  · refine ⟨([], 1), ?_, ?_, by simp⟩
    · unfold spec_ListOfGrowth.f; exact Ev.bind (ev_l09Code_bad h l) (evneg (by omega) (Ev.now _))
    · unfold impl_ListOfGrowth.f; exact Ev.bind (ev_growingCode_bad h l hl) (evneg (by omega) (Ev.now _))
  · have hle := h.le
    have hlen := h.len
    have hpos := h.pos
    by_cases hc : Tr.codeG d l t = 0
    · obtain ⟨ho, hg⟩ := Tr.codeG_zero.mp hc
      have ho2 := ho
      rw [hlen] at ho
      have hol := ho.1
      refine ⟨if Lg.whole t l then (Tr.each (t.size - 1) (gfn t l), 0) else ([], 4), ?_, ?_, ?_⟩
      · unfold spec_ListOfGrowth.f
        refine Ev.bind (ev_l09Code h l hl) (evpos hc (Ev.bind (ev_l01Parents h) (evpos (by omega) (evpos (by omega) ?_))))
        have h1 := ev_spec_ListOfGrowth_l1 h ho hg (t.size - 1) 0 (by omega)
        have h2 := ev_spec_ListOfGrowth_l0 (d := d) ho (by omega) h1 l [] (List.replicate (l.length : Int).toNat 0) rfl (by simp; omega) (fun v _ hm => absurd hm (by simp))
        exact h2
      · unfold impl_ListOfGrowth.f
        refine Ev.bind (ev_growingCode h l hl) (evpos hc (Ev.bind (ev_labelsOf ho (by omega)) (Ev.bind (ev_parentsOf h) (evpos (by omega) ?_))))
        exact ev_impl_ListOfGrowth_l0 h ho hg (t.size - 1) 0 (by omega)
      · split
        · show (Tr.each (t.size - 1) (gfn t l)).length ≤ 1000
          rw [Tr.each_len]; omega
        · simp
    · refine ⟨([], Tr.codeG d l t), ?_, ?_, by simp⟩
      · unfold spec_ListOfGrowth.f; exact Ev.bind (ev_l09Code h l hl) (evneg hc (Ev.now _))
      · unfold impl_ListOfGrowth.f; exact Ev.bind (ev_growingCode h l hl) (evneg hc (Ev.now _))
theorem pure_FnExactListOfGrowth (l0 : List Int) (l1 : List Int) (hl0 : l0.length ≤ maxLen) (_ : ∀ x ∈ l0, (Lit.int .i64 x).wf = true) (hl1 : l1.length ≤ maxLen) (_ : ∀ x ∈ l1, (Lit.int .i64 x).wf = true) : ∃ k, laws_FnExactListOfGrowth.f k l0 l1 = some true := by
  unfold maxLen at hl0
  unfold maxLen at hl1
  refine Ev.rounds ?_
  unfold laws_FnExactListOfGrowth.f
  by_cases hs1 : (l1.length : Int) > 1048576
  · exact evpos hs1 (Ev.now _)
  refine evneg hs1 ?_
  rw [szTree_eq l0 (1048576) (by omega) (by omega) (by omega)]
  refine evsome ?_
  by_cases hs0 : (1048576 : Int) - l0.length < 0
  · rw [if_pos hs0]; exact evpos (by omega) (Ev.now _)
  rw [if_neg hs0]
  refine evneg hs0 ?_
  obtain ⟨r, hq, hi, hb⟩ := ev_ListOfGrowth l0 l1 (by omega)
  repeat first
    | exact Ev.now _
    | refine Ev.bind hq ?_
    | refine Ev.bind hi ?_
    | refine Ev.bind (ev_toTree l0 (by omega)) ?_
    | refine Ev.bind (ev_eqTree l0 l0 (by omega) (by omega)) ?_
    | refine Ev.bind (ev_toInt64S l1 (by omega)) ?_
    | refine Ev.bind (ev_eqInt64S l1 l1 (by omega) (by omega)) ?_
    | refine Ev.bind (ev_markTree l0 _ (by first | omega | simp) (by first | omega | (simp; omega))) ?_
    | refine Ev.bind (ev_markInt64S l1 _ (by first | omega | simp) (by first | omega | (simp; omega))) ?_
    | refine Ev.bind (ev_eqInt64S _ _ (by omega) (by omega)) ?_
    | refine Ev.bind (ev_markInt64S _ _ (by first | omega | simp) (by first | omega | (simp; omega))) ?_
    | refine Ev.bind (ev_heldInt64S _ _ (by first | omega | simp) (by first | omega | (simp; omega))) ?_
    | (refine evpos ?_ ?_; first | rfl | (simp <;> fail))
    | (refine evneg ?_ ?_; first | (simp <;> fail) | (simp <;> omega))
end Go.Proofs.Yteangdgmokkjbab.QFnExactListOfGrowth
