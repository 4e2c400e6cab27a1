import Derived.Test.YteangdgmokkjbabQFnExactPutInx
import Derived.Test.YteangdgmokkjbabTr
import Derived.Test.YteangdgmokkjbabNd
namespace Go.Proofs.Yteangdgmokkjbab.QFnExactPutIn
open Go.RowKit Go.Proofs.YteangdgmokkjbabW.PrintWords Go.Proofs.YteangdgmokkjbabW.PrintLast Go.Proofs.YteangdgmokkjbabW.PrintMore Go.Proofs.Yteangdgmokkjbab
set_option linter.unusedVariables false
set_option linter.unusedSimpArgs false
theorem Ev_succ {α : Type} {g : Nat → Option α} {r : α} (h : Ev (fun k => g (k + 1)) r) : Ev g r := Ev.step (fun _ => rfl) h
theorem evpos {α : Type} {c : Prop} [Decidable c] {f g : Nat → Option α} {r : α} (h : c) (k : Ev f r) : Ev (fun n => if c then f n else g n) r := by
  simp only [if_pos h]; exact k
theorem evneg {α : Type} {c : Prop} [Decidable c] {f g : Nat → Option α} {r : α} (h : ¬ c) (k : Ev g r) : Ev (fun n => if c then f n else g n) r := by
  simp only [if_neg h]; exact k
theorem evsome {α β : Type} {a : α} {f : Nat → α → Option β} {r : β} (k : Ev (fun n => f n a) r) : Ev (fun n => (some a).bind (f n)) r := k
theorem evnow {α : Type} {a r : α} (h : a = r) : Ev (fun _ => some a) r := by subst h; exact Ev.now _
theorem ev_eq_l0 (xs ys : List Int) (hl : xs.length = ys.length) (hb : xs.length ≤ 1152921504606846976) : ∀ (n i : Nat), i + n = xs.length →
    Ev (fun k => laws_eqInt64S.l0 k xs ys (i : Nat)) (decide (xs.drop i = ys.drop i)) := by
  intro n
  induction n with
  | zero =>
    intro i hi
    refine Ev_succ ?_
    simp only [laws_eqInt64S.l0]
    refine evneg (by omega) (evnow ?_)
    rw [List.drop_of_length_le (by omega), List.drop_of_length_le (by omega)]; rfl
  | succ n ih =>
    intro i hi
    refine Ev_succ ?_
    simp only [laws_eqInt64S.l0]
    refine evpos (by omega) (evpos (by omega) (evpos (by omega) ?_))
    rw [Tr.rd_getElem (by omega : i < xs.length), Tr.rd_getElem (by omega : i < ys.length)]
    have e : wrap64 ((i : Int) + 1) = ((i + 1 : Nat) : Int) := by rw [Tr.wrap_id (by omega) (by omega)]; omega
    rw [e]
    have e3 : (xs.drop i = ys.drop i) = (xs[i] = ys[i] ∧ xs.drop (i + 1) = ys.drop (i + 1)) := by
      rw [List.drop_eq_getElem_cons (by omega : i < xs.length), List.drop_eq_getElem_cons (by omega : i < ys.length)]
      exact List.cons.injEq _ _ _ _
    have e4 : decide (xs.drop i = ys.drop i) = decide (xs[i] = ys[i] ∧ xs.drop (i + 1) = ys.drop (i + 1)) := by simp only [e3]
    rw [e4]
    by_cases h : xs[i] = ys[i]
    · refine evpos h ?_
      have := ih (i + 1) (by omega)
      rw [show decide (xs[i] = ys[i] ∧ xs.drop (i + 1) = ys.drop (i + 1)) = decide (xs.drop (i + 1) = ys.drop (i + 1)) by simp only [h, true_and]]
      exact this
    · refine evneg h (evnow ?_)
      simp only [h, false_and, decide_false]
theorem ev_eqInt64S (xs ys : List Int) (hb : xs.length ≤ 1152921504606846976) (hc : ys.length ≤ 1152921504606846976) : Ev (fun k => laws_eqInt64S.f k xs ys) (decide (xs = ys)) := by
  unfold laws_eqInt64S.f
  by_cases h : xs.length = ys.length
  · refine evpos (by omega) ?_
    have := ev_eq_l0 xs ys h hb xs.length 0 (by omega)
    simpa using this
  · refine evneg (by omega) (evnow ?_)
    rw [eq_comm, decide_eq_false_iff_not]
    intro e; exact h (by rw [e])
theorem ev_eqTree (xs ys : List Int) (hb : xs.length ≤ 1152921504606846976) (hc : ys.length ≤ 1152921504606846976) : Ev (fun k => laws_eqTree.f k xs ys) (decide (xs = ys)) := by
  unfold laws_eqTree.f
  refine Ev.bind (ev_eqInt64S xs ys hb hc) ?_
  by_cases h : xs = ys
  · rw [decide_eq_true h]; exact evpos rfl (Ev.now _)
  · rw [decide_eq_false h]; exact evneg (by simp) (Ev.now _)
theorem szInt64S_eq (xs : List Int) (a : Int) (h0 : 0 ≤ a) (h1 : a ≤ 1048576) (hb : xs.length ≤ 9223372036854775807) : laws_szInt64S.f xs a = some (if a - xs.length < 0 then -1 else a - xs.length) := by
  unfold laws_szInt64S.f
  rw [Tr.wrap_id (by omega) (by omega)]
  split <;> rfl
theorem szTree_eq (xs : List Int) (a : Int) (h0 : 0 ≤ a) (h1 : a ≤ 1048576) (hb : xs.length ≤ 9223372036854775807) : laws_szTree.f xs a = some (if a - xs.length < 0 then -1 else a - xs.length) := by
  unfold laws_szTree.f
  rw [szInt64S_eq xs a h0 h1 hb]
  simp only [Option.bind_some]
  by_cases h : a - xs.length < 0
  · simp only [if_pos h]; rfl
  · simp only [if_neg h]
theorem ev_to_l0 (xs : List Int) (hb : xs.length ≤ 35184372088832) : ∀ (n i : Nat) (ys : List Int), i + n = xs.length → ys.length = xs.length → ys.take i = xs.take i →
    Ev (fun k => laws_toInt64S.l0 k xs ys (i : Nat)) xs := by
  intro n
  induction n with
  | zero =>
    intro i ys hi hy ht
    refine Ev_succ ?_
    simp only [laws_toInt64S.l0]
    refine evneg (by omega) (evnow ?_)
    rwa [List.take_of_length_le (by omega), List.take_of_length_le (by omega)] at ht
  | succ n ih =>
    intro i ys hi hy ht
    refine Ev_succ ?_
    simp only [laws_toInt64S.l0]
    refine evpos (by omega) (evpos (by omega) (evpos (by omega) ?_))
    have e : wrap64 ((i : Int) + 1) = ((i + 1 : Nat) : Int) := by rw [Tr.wrap_id (by omega) (by omega)]; omega
    rw [e, Tr.rd_getElem (by omega : i < xs.length), Int.toNat_natCast]
    refine ih (i + 1) _ (by omega) (by simp [hy]) ?_
    rw [List.take_succ_eq_append_getElem (by simp; omega), List.take_succ_eq_append_getElem (by omega)]
    simp [List.take_set_of_le, ht]
theorem ev_toInt64S (xs : List Int) (hb : xs.length ≤ 35184372088832) : Ev (fun k => laws_toInt64S.f k xs) xs := by
  unfold laws_toInt64S.f
  refine evpos (by omega) (evpos (by omega) ?_)
  have := ev_to_l0 xs hb xs.length 0 (List.replicate xs.length 0) (by omega) (by simp) (by simp)
  simpa using this
theorem ev_toTree (xs : List Int) (hb : xs.length ≤ 35184372088832) : Ev (fun k => laws_toTree.f k xs) xs := by
  unfold laws_toTree.f
  exact Ev.bind (ev_toInt64S xs hb) (Ev.now _)
/-- The numbers m, m + 1, .. -/
def up (m : Int) : Nat → List Int
  | 0 => []
  | n + 1 => m :: up (m + 1) n
theorem up_len (n : Nat) : ∀ m, (up m n).length = n := by
  induction n with
  | zero => intro m; rfl
  | succ n ih => intro m; simp [up, ih]
theorem up_get (n : Nat) : ∀ (m : Int) (i : Nat) (h : i < (up m n).length), (up m n)[i] = m + i := by
  induction n with
  | zero => intro m i h; simp [up] at h
  | succ n ih =>
    intro m i h
    cases i with
    | zero => simp [up]
    | succ i => simp only [up, List.getElem_cons_succ, ih]; omega
theorem ev_mark_l0 (a : Int) (N : Nat) (h0 : 0 ≤ a) (h1 : a + N ≤ 1152921504606846976) : ∀ (n i : Nat) (xs : List Int), i + n = N → xs.length = N → xs.take i = (up a N).take i →
    Ev (fun k => laws_markInt64S.l0 k xs (a + i) (i : Nat)) (a + N, up a N) := by
  intro n
  induction n with
  | zero =>
    intro i xs hi hy ht
    refine Ev_succ ?_
    simp only [laws_markInt64S.l0]
    refine evneg (by omega) (evnow ?_)
    rw [List.take_of_length_le (by omega), List.take_of_length_le (by rw [up_len]; omega)] at ht
    rw [ht]
    have : i = N := by omega
    subst this; rfl
  | succ n ih =>
    intro i xs hi hy ht
    refine Ev_succ ?_
    simp only [laws_markInt64S.l0]
    refine evpos (by omega) (evpos (by omega) ?_)
    have e : wrap64 ((i : Int) + 1) = ((i + 1 : Nat) : Int) := by rw [Tr.wrap_id (by omega) (by omega)]; omega
    have e2 : wrap64 (a + (i : Int) + 1) = a + ((i + 1 : Nat) : Int) := by rw [Tr.wrap_id (by omega) (by omega)]; omega
    rw [e, e2, Int.toNat_natCast]
    refine ih (i + 1) _ (by omega) (by simp [hy]) ?_
    rw [List.take_succ_eq_append_getElem (by simp; omega), List.take_succ_eq_append_getElem (by rw [up_len]; omega), up_get]
    simp [List.take_set_of_le, ht]
theorem ev_markInt64S (xs : List Int) (a : Int) (h0 : 0 ≤ a) (h1 : a + xs.length ≤ 1152921504606846976) : Ev (fun k => laws_markInt64S.f k xs a) (a + xs.length, up a xs.length) := by
  unfold laws_markInt64S.f
  have := ev_mark_l0 a xs.length h0 h1 xs.length 0 xs (by omega) rfl (by simp)
  simpa using this
theorem ev_held_l0 (a : Int) (N : Nat) (h0 : 0 ≤ a) (h1 : a + N ≤ 1152921504606846976) : ∀ (n i : Nat), i + n = N →
    Ev (fun k => laws_heldInt64S.l0 k (up a N) (a + i) (i : Nat)) (a + N) := by
  intro n
  induction n with
  | zero =>
    intro i hi
    refine Ev_succ ?_
    simp only [laws_heldInt64S.l0, up_len]
    refine evneg (by omega) (evnow ?_)
    omega
  | succ n ih =>
    intro i hi
    refine Ev_succ ?_
    simp only [laws_heldInt64S.l0, up_len]
    have e : wrap64 ((i : Int) + 1) = ((i + 1 : Nat) : Int) := by rw [Tr.wrap_id (by omega) (by omega)]; omega
    have e2 : wrap64 (a + (i : Int) + 1) = a + ((i + 1 : Nat) : Int) := by rw [Tr.wrap_id (by omega) (by omega)]; omega
    have e3 : rd (up a N) (i : Int) = a + i := by rw [Tr.rd_getElem (by rw [up_len]; omega), up_get]
    refine evpos (by omega) (evpos (by omega) (evpos e3 ?_))
    rw [e, e2]
    exact ih (i + 1) (by omega)
theorem ev_heldInt64S (N : Nat) (a : Int) (h0 : 0 ≤ a) (h1 : a + N ≤ 1152921504606846976) : Ev (fun k => laws_heldInt64S.f k (up a N) a) (a + N) := by
  unfold laws_heldInt64S.f
  have := ev_held_l0 a N h0 h1 N 0 (by omega)
  simpa using this
theorem ev_markTree (xs : List Int) (a : Int) (h0 : 0 ≤ a) (h1 : a + xs.length ≤ 1152921504606846976) : Ev (fun k => laws_markTree.f k xs a) (a + xs.length, up a xs.length) := by
  unfold laws_markTree.f
  exact Ev.bind (ev_markInt64S xs a h0 h1) (evnow rfl)
theorem ev_heldTree (N : Nat) (a : Int) (h0 : 0 ≤ a) (h1 : a + N ≤ 1152921504606846976) : Ev (fun k => laws_heldTree.f k (up a N) a) (a + N) := by
  unfold laws_heldTree.f
  refine Ev.bind (ev_heldInt64S N a h0 h1) ?_
  exact evneg (by omega) (Ev.now _)
theorem ev_isTree_l0 : ∀ (l pre : List Int) (m : Int) (n : Int), n = ((pre ++ l).length : Int) → n ≤ 1000 → 0 ≤ m → m + 24 * l.length ≤ 100000 →
    Ev (fun k => impl_isTree.l0 k m (pre ++ l) n (pre.length : Int)) (Tr.ok l m) := by
  intro l
  induction l with
  | nil =>
    intro pre m n hn hb h0 h1
    refine Ev_succ ?_
    simp only [impl_isTree.l0]
    simp only [List.length_append, List.length_nil] at hn
    refine evneg (by omega) (evnow ?_)
    rfl
  | cons x l ih =>
    intro pre m n hn hb h0 h1
    refine Ev_succ ?_
    simp only [impl_isTree.l0]
    have hn' := hn
    simp only [List.length_append, List.length_cons] at hn h1 ⊢
    refine evpos (by omega) (evpos (by omega) (evpos (by simp; omega) ?_))
    have e : rd (pre ++ x :: l) (pre.length : Int) = x := by rw [Tr.rd_app0]; exact Tr.rd_cons0 _ _
    rw [e]
    by_cases hm : m = 0
    · refine evpos hm (evnow ?_); simp [Tr.ok, hm]
    · refine evneg hm ?_
      by_cases hx : x < 0
      · refine evpos hx (evnow ?_); simp [Tr.ok, hm, Int.not_le.mpr hx]
      · refine evneg hx ?_
        by_cases hy : x ≥ 24
        · refine evpos hy (evnow ?_); simp [Tr.ok, hm, Int.not_lt.mpr hy]
        · refine evneg hy ?_
          have e2 : wrap64 (m + wrap64 (x - 1)) = m - 1 + x := by rw [Tr.wrap_id (x := x - 1) (by omega) (by omega), Tr.wrap_id (by omega) (by omega)]; omega
          have e3 : wrap64 ((pre.length : Int) + 1) = ((pre ++ [x]).length : Int) := by rw [Tr.wrap_id (by omega) (by omega)]; simp
          rw [e2, e3]
          have := ih (pre ++ [x]) (m - 1 + x) n (by simp; omega) hb (by omega) (by omega)
          simp only [List.append_assoc, List.singleton_append] at this
          rw [show Tr.ok (x :: l) m = Tr.ok l (m - 1 + x) by
            have : (m != 0) = true := bne_iff_ne.mpr hm
            have h4 : decide (0 ≤ x) = true := decide_eq_true (by omega)
            have h5 : decide (x < 24) = true := decide_eq_true (by omega)
            simp only [Tr.ok, this, h4, h5, Bool.true_and]]
          exact this
theorem ev_isTree (d : List Int) : Ev (fun k => impl_isTree.f k d) (Tr.isT d) := by
  unfold impl_isTree.f
  by_cases h : (d.length : Int) < 1
  · refine evpos h (Ev_succ ?_)
    simp only [impl_isTree.j0]
    refine evpos (by simp) (evnow ?_)
    simp only [Tr.isT, decide_eq_false (by omega : ¬ 1 ≤ d.length), Bool.false_and]
  · refine evneg h (Ev_succ ?_)
    simp only [impl_isTree.j0]
    by_cases h2 : (d.length : Int) > 24
    · refine evpos (decide_eq_true h2) (evnow ?_)
      simp only [Tr.isT, decide_eq_false (by omega : ¬ d.length ≤ 24), Bool.false_and, Bool.and_false]
    · refine evneg (by simpa using h2) ?_
      have := ev_isTree_l0 d [] 1 d.length (by simp) (by omega) (by omega) (by omega)
      rw [show Tr.isT d = Tr.ok d 1 by simp only [Tr.isT, decide_eq_true (by omega : 1 ≤ d.length), decide_eq_true (by omega : d.length ≤ 24), Bool.true_and]]
      exact this
theorem ev_IsTree (d : List Int) : Ev (fun k => impl_IsTree.f k d) (Tr.isT d) := by
  unfold impl_IsTree.f
  exact Ev.bind (ev_isTree d) (Ev.now _)
theorem l01In_eq (a b c : Int) : spec_l01In.f a b c = some (decide (b ≤ a ∧ a ≤ c)) := by
  unfold spec_l01In.f
  by_cases h : a ≥ b
  · rw [if_pos h]; congr 1; simp; omega
  · rw [if_neg h]; congr 1; symm; simp; omega
theorem l01N_eq (d : List Int) : spec_l01N.f d = some (d.length : Int) := rfl
theorem ev_l01Is_l0 : ∀ (l pre : List Int) (m : Int), (pre ++ l).length ≤ 24 → 0 ≤ m → (m ≥ 1 ∨ True) → m + 25 * l.length ≤ 100000 →
    Ev (fun k => spec_l01Is.l0 k m (pre.length : Int) (pre ++ l)) (Tr.ok25 l m) := by
  intro l
  induction l with
  | nil =>
    intro pre m hb h0 _ h1
    refine Ev_succ ?_
    simp only [spec_l01Is.l0, List.length_append, List.length_nil]
    refine evneg (by omega) (evnow ?_)
    rfl
  | cons x l ih =>
    intro pre m hb h0 _ h1
    refine Ev_succ ?_
    simp only [spec_l01Is.l0]
    simp only [List.length_append, List.length_cons] at h1 hb ⊢
    refine evpos (by omega) ?_
    have e : rd (pre ++ x :: l) (pre.length : Int) = x := by rw [Tr.rd_app0]; exact Tr.rd_cons0 _ _
    rw [e, l01In_eq]
    by_cases hm : m = 0
    · refine evpos hm (evnow ?_); simp [Tr.ok25, hm]
    · refine evneg hm (evpos (by omega) (evsome ?_))
      by_cases hx : 0 ≤ x ∧ x ≤ 24
      · refine evpos (decide_eq_true hx) ?_
        have e2 : wrap64 (wrap64 (m - 1) + x) = m - 1 + x := by rw [Tr.wrap_id (x := m - 1) (by omega) (by omega), Tr.wrap_id (by omega) (by omega)]
        have e3 : wrap64 ((pre.length : Int) + 1) = ((pre ++ [x]).length : Int) := by rw [Tr.wrap_id (by omega) (by omega)]; simp
        rw [e2, e3]
        have := ih (pre ++ [x]) (m - 1 + x) (by simp; omega) (by omega) (.inr trivial) (by omega)
        simp only [List.append_assoc, List.singleton_append] at this
        rw [show Tr.ok25 (x :: l) m = Tr.ok25 l (m - 1 + x) by
          have : (m != 0) = true := bne_iff_ne.mpr hm
          simp only [Tr.ok25, this, decide_eq_true hx, Bool.true_and]]
        exact this
      · refine evneg (by simpa using hx) (evnow ?_)
        simp only [Tr.ok25, decide_eq_false hx, Bool.false_and, Bool.and_false]
theorem ev_l01Is (d : List Int) : Ev (fun k => spec_l01Is.f k d) (Tr.isT d) := by
  unfold spec_l01Is.f
  rw [l01N_eq]
  refine evsome ?_
  rw [l01In_eq]
  refine evsome ?_
  by_cases h : (1 : Int) ≤ (d.length : Int) ∧ (d.length : Int) ≤ 24
  · refine evpos (decide_eq_true h) ?_
    have := ev_l01Is_l0 d [] 1 (by simp; omega) (by omega) (.inr trivial) (by omega)
    rw [Tr.isT_eq25 d (by omega) (by omega)]
    exact this
  · refine evneg (by simpa using h) (evnow ?_)
    simp only [Tr.isT]
    by_cases h2 : 1 ≤ d.length
    · simp only [decide_eq_false (by omega : ¬ d.length ≤ 24), Bool.false_and, Bool.and_false]
    · simp only [decide_eq_false h2, Bool.false_and]
theorem ev_endOf_l0 (d : List Int) (hd : d.length ≤ 1000) (r : Int) : ∀ (g : Tr.F) (p j : Nat), Tr.Pl d p g → j + g.size ≤ 100000 →
    Ev (fun k => impl_endOf.l0 k d ((p + g.size : Nat) : Int) (j : Int)) r → Ev (fun k => impl_endOf.l0 k d (p : Int) ((g.len + j : Nat) : Int)) r := by
  intro g
  induction g with
  | nil => intro p j _ _ h; simpa [Tr.F.size, Tr.F.len] using h
  | cons b n hb hn =>
    intro p j hp hj h
    have hle := hp.le
    simp only [Tr.F.size] at hle hj
    have l1 := Tr.F.len_le b
    have l2 := Tr.F.len_le n
    refine Ev_succ ?_
    simp only [impl_endOf.l0, Tr.F.len]
    refine evpos (by omega) (evpos (by omega) (evpos (by omega) ?_))
    rw [hp.deg]
    have e : wrap64 ((p : Int) + 1) = ((p + 1 : Nat) : Int) := by rw [Tr.wrap_id (by omega) (by omega)]; omega
    have e2 : wrap64 (((1 + n.len + j : Nat) : Int) + wrap64 ((b.len : Int) - 1)) = ((b.len + (n.len + j) : Nat) : Int) := by
      rw [Tr.wrap_id (x := (b.len : Int) - 1) (by omega) (by omega), Tr.wrap_id (by omega) (by omega)]; omega
    rw [e, e2]
    refine hb (p + 1) (n.len + j) hp.below (by omega) ?_
    refine hn (p + 1 + b.size) j hp.next (by omega) ?_
    rw [show p + 1 + b.size + n.size = p + (Tr.F.cons b n).size by simp only [Tr.F.size]; omega]
    exact h
theorem ev_endOf {d : List Int} (hd : d.length ≤ 1000) {p : Nat} {b n : Tr.F} (h : Tr.Pl d p (.cons b n)) : Ev (fun k => impl_endOf.f k d (p : Int)) ((p + 1 + b.size : Nat) : Int) := by
  unfold impl_endOf.f
  have := ev_endOf_l0 d hd ((p + 1 + b.size : Nat) : Int) (.cons b .nil) p 0 h.one (by have := h.le; simp only [Tr.F.size] at this ⊢; omega)
  simp only [Tr.F.len, Tr.F.size] at this
  refine this ?_
  refine Ev_succ ?_
  simp only [impl_endOf.l0]
  refine evneg (by omega) (evnow (by omega))
theorem ev_l01End_l0 (d : List Int) (hd : d.length ≤ 1000) (r : Int) : ∀ (g : Tr.F) (p j : Nat), Tr.Pl d p g → j + g.size ≤ 100000 →
    Ev (fun k => spec_l01End.l0 k ((p + g.size : Nat) : Int) (j : Int) d) r → Ev (fun k => spec_l01End.l0 k (p : Int) ((g.len + j : Nat) : Int) d) r := by
  intro g
  induction g with
  | nil => intro p j _ _ h; simpa [Tr.F.size, Tr.F.len] using h
  | cons b n hb hn =>
    intro p j hp hj h
    have hle := hp.le
    simp only [Tr.F.size] at hle hj
    have l1 := Tr.F.len_le b
    have l2 := Tr.F.len_le n
    refine Ev_succ ?_
    simp only [spec_l01End.l0, Tr.F.len]
    refine evpos (by omega) (evpos (by omega) (evpos (by omega) ?_))
    rw [hp.deg]
    have e : wrap64 ((p : Int) + 1) = ((p + 1 : Nat) : Int) := by rw [Tr.wrap_id (by omega) (by omega)]; omega
    have e2 : wrap64 (wrap64 (((1 + n.len + j : Nat) : Int) - 1) + (b.len : Int)) = ((b.len + (n.len + j) : Nat) : Int) := by
      rw [Tr.wrap_id (x := ((1 + n.len + j : Nat) : Int) - 1) (by omega) (by omega), Tr.wrap_id (by omega) (by omega)]; omega
    rw [e, e2]
    refine hb (p + 1) (n.len + j) hp.below (by omega) ?_
    refine hn (p + 1 + b.size) j hp.next (by omega) ?_
    rw [show p + 1 + b.size + n.size = p + (Tr.F.cons b n).size by simp only [Tr.F.size]; omega]
    exact h
theorem ev_l01End {d : List Int} (hd : d.length ≤ 1000) {p : Nat} {b n : Tr.F} (h : Tr.Pl d p (.cons b n)) : Ev (fun k => spec_l01End.f k d (p : Int)) ((p + 1 + b.size : Nat) : Int) := by
  unfold spec_l01End.f
  have := ev_l01End_l0 d hd ((p + 1 + b.size : Nat) : Int) (.cons b .nil) p 0 h.one (by have := h.le; simp only [Tr.F.size] at this ⊢; omega)
  simp only [Tr.F.len, Tr.F.size] at this
  refine this ?_
  refine Ev_succ ?_
  simp only [spec_l01End.l0]
  refine evneg (by omega) (evnow (by omega))
theorem ev_kidsOf_l0 (d : List Int) (hd : d.length ≤ 1000) : ∀ (g : Tr.F) (p i N : Nat) (out : List Int), Tr.Pl d p g → i + g.len = N → N ≤ 1000 → out.length ≤ i →
    Ev (fun k => impl_kidsOf.l0 k d out (p : Int) (N : Int) (i : Int)) (out ++ g.roots p) := by
  intro g
  induction g with
  | nil =>
    intro p i N out hp hi hN ho
    simp only [Tr.F.len] at hi
    refine Ev_succ ?_
    simp only [impl_kidsOf.l0]
    refine evneg (by omega) (evnow ?_)
    simp [Tr.F.roots]
  | cons b n hb hn =>
    intro p i N out hp hi hN ho
    simp only [Tr.F.len] at hi
    refine Ev_succ ?_
    simp only [impl_kidsOf.l0]
    refine evpos (by omega) (evpos (by omega) (Ev.bind (ev_endOf hd hp) ?_))
    have e : wrap64 ((i : Int) + 1) = ((i + 1 : Nat) : Int) := by rw [Tr.wrap_id (by omega) (by omega)]; omega
    rw [e]
    have := hn (p + 1 + b.size) (i + 1) N (out ++ [(p : Int)]) hp.next (by omega) hN (by simp; omega)
    simpa [Tr.F.roots] using this
theorem ev_kidsOf {d : List Int} (hd : d.length ≤ 1000) {p : Nat} {b n : Tr.F} (h : Tr.Pl d p (.cons b n)) : Ev (fun k => impl_kidsOf.f k d (p : Int)) (b.roots (p + 1)) := by
  have hle := h.le
  simp only [Tr.F.size] at hle
  have l1 := Tr.F.len_le b
  unfold impl_kidsOf.f
  refine evpos (by omega) (evpos (by omega) ?_)
  have e : wrap64 ((p : Int) + 1) = ((p + 1 : Nat) : Int) := by rw [Tr.wrap_id (by omega) (by omega)]; omega
  rw [h.deg, e]
  have := ev_kidsOf_l0 d hd b (p + 1) 0 b.len [] h.below (by omega) (by omega) (by simp)
  simpa using this
theorem ev_l01Children_l0 (d : List Int) (hd : d.length ≤ 1000) : ∀ (g : Tr.F) (p : Nat) (out : List Int), Tr.Pl d p g → out.length + g.len ≤ 1000 →
    Ev (fun k => spec_l01Children.l0 k out (p : Int) (g.len : Int) d) (out ++ g.roots p) := by
  intro g
  induction g with
  | nil =>
    intro p out hp ho
    refine Ev_succ ?_
    simp only [spec_l01Children.l0, Tr.F.len]
    refine evneg (by omega) (evnow ?_)
    simp [Tr.F.roots]
  | cons b n hb hn =>
    intro p out hp ho
    simp only [Tr.F.len] at ho
    refine Ev_succ ?_
    simp only [spec_l01Children.l0, Tr.F.len]
    refine evpos (by omega) (evpos (by omega) (Ev.bind (ev_l01End hd hp) ?_))
    have e : wrap64 (((1 + n.len : Nat) : Int) - 1) = (n.len : Int) := by rw [Tr.wrap_id (by omega) (by omega)]; omega
    rw [e]
    have := hn (p + 1 + b.size) (out ++ [(p : Int)]) hp.next (by simp; omega)
    simpa [Tr.F.roots] using this
theorem ev_l01Children {d : List Int} (hd : d.length ≤ 1000) {p : Nat} {b n : Tr.F} (h : Tr.Pl d p (.cons b n)) : Ev (fun k => spec_l01Children.f k d (p : Int)) (b.roots (p + 1)) := by
  have hle := h.le
  simp only [Tr.F.size] at hle
  have l1 := Tr.F.len_le b
  unfold spec_l01Children.f
  refine evpos (by omega) (evpos (by omega) ?_)
  have e : wrap64 ((p : Int) + 1) = ((p + 1 : Nat) : Int) := by rw [Tr.wrap_id (by omega) (by omega)]; omega
  rw [h.deg, e]
  have := ev_l01Children_l0 d hd b (p + 1) [] h.below (by simp; omega)
  simpa using this
theorem l01Own_eq (l : List Int) (h : l.length ≤ 1000000) : spec_l01Own.f l = some l := by
  unfold spec_l01Own.f
  simp only [Option.bind_some]
  rw [if_pos (by simp; omega)]
  simp
theorem ev_treeCode_l0 (d : List Int) (hd : d.length ≤ 1000) : ∀ (l pre : List Int) (N : Int), N = ((pre ++ l).length : Int) → N ≤ 100000000 →
    Ev (fun k => impl_treeCode.l0 k (pre ++ l) N (pre.length : Int) d) (Tr.nodesCode d.length l) := by
  intro l
  induction l with
  | nil =>
    intro pre N hN hb
    refine Ev_succ ?_
    simp only [impl_treeCode.l0]
    simp only [List.length_append, List.length_nil] at hN
    exact evneg (by omega) (evnow rfl)
  | cons v l ih =>
    intro pre N hN hb
    refine Ev_succ ?_
    simp only [impl_treeCode.l0]
    have hN' := hN
    simp only [List.length_append, List.length_cons] at hN
    have e : rd (pre ++ v :: l) (pre.length : Int) = v := by rw [Tr.rd_app0]; exact Tr.rd_cons0 _ _
    refine evpos (by omega) (evpos (by omega) (evpos (by simp; omega) ?_))
    rw [e]
    by_cases h0 : v < 0
    · refine evpos h0 (evnow ?_)
      simp only [Tr.nodesCode]; rw [if_neg (by omega)]
    · refine evneg h0 ?_
      by_cases h1 : v ≥ d.length
      · refine evpos h1 (evnow ?_)
        simp only [Tr.nodesCode]; rw [if_neg (by omega)]
      · refine evneg h1 ?_
        have e3 : wrap64 ((pre.length : Int) + 1) = ((pre ++ [v]).length : Int) := by rw [Tr.wrap_id (by omega) (by omega)]; simp
        rw [e3]
        have := ih (pre ++ [v]) N (by simp only [hN', List.append_assoc, List.singleton_append]) hb
        simp only [List.append_assoc, List.singleton_append] at this
        rw [show Tr.nodesCode d.length (v :: l) = Tr.nodesCode d.length l by simp only [Tr.nodesCode]; rw [if_pos (by omega)]]
        exact this
theorem ev_treeCode (d l : List Int) (hl : l.length ≤ 100000000) : Ev (fun k => impl_treeCode.f k d l) (Tr.codeT d l) := by
  unfold impl_treeCode.f Tr.codeT
  refine Ev.bind (ev_IsTree d) ?_
  by_cases h : Tr.isT d = true
  · rw [h]
    obtain ⟨b, _, hb, hd, _⟩ := Tr.isT_at h
    refine evpos rfl ?_
    have := ev_treeCode_l0 d (by omega) l [] l.length (by simp) (by omega)
    exact this
  · rw [if_neg h]
    exact evneg h (Ev.now _)
theorem ev_l01Nodes_l0 (d : List Int) (hd : d.length ≤ 1000) : ∀ (l pre : List Int), (pre ++ l).length ≤ 100000000 →
    Ev (fun k => spec_l01Nodes.l0 k (pre ++ l) (pre.length : Int) d) (Tr.nodesCode d.length l) := by
  intro l
  induction l with
  | nil =>
    intro pre hb
    refine Ev_succ ?_
    simp only [spec_l01Nodes.l0]
    exact evneg (by simp) (evnow rfl)
  | cons v l ih =>
    intro pre hb
    refine Ev_succ ?_
    simp only [spec_l01Nodes.l0]
    have hb' := hb
    simp only [List.length_append, List.length_cons] at hb
    have e : rd (pre ++ v :: l) (pre.length : Int) = v := by rw [Tr.rd_app0]; exact Tr.rd_cons0 _ _
    have e1 : wrap64 ((d.length : Int) - 1) = (d.length : Int) - 1 := Tr.wrap_id (by omega) (by omega)
    refine evpos (by simp; omega) (evpos (by omega) ?_)
    rw [l01N_eq]
    refine evsome ?_
    rw [e, e1, l01In_eq]
    refine evsome ?_
    by_cases h : 0 ≤ v ∧ v ≤ (d.length : Int) - 1
    · refine evpos (decide_eq_true h) ?_
      have e3 : wrap64 ((pre.length : Int) + 1) = ((pre ++ [v]).length : Int) := by rw [Tr.wrap_id (by omega) (by omega)]; simp
      rw [e3]
      have := ih (pre ++ [v]) (by simpa using hb')
      simp only [List.append_assoc, List.singleton_append] at this
      rw [show Tr.nodesCode d.length (v :: l) = Tr.nodesCode d.length l by simp only [Tr.nodesCode]; rw [if_pos (by omega)]]
      exact this
    · refine evneg (by simpa using h) (evnow ?_)
      simp only [Tr.nodesCode]; rw [if_neg (by omega)]
theorem ev_l01Nodes (d l : List Int) (hl : l.length ≤ 100000000) : Ev (fun k => spec_l01Nodes.f k d l) (Tr.codeT d l) := by
  unfold spec_l01Nodes.f Tr.codeT
  refine Ev.bind (ev_l01Is d) ?_
  by_cases h : Tr.isT d = true
  · rw [h]
    obtain ⟨b, _, hb, hd, _⟩ := Tr.isT_at h
    refine evpos rfl ?_
    have := ev_l01Nodes_l0 d (by omega) l [] (by simpa using hl)
    exact this
  · rw [if_neg h]
    exact evneg h (Ev.now _)
theorem deg_range {d : List Int} {t : Tr.F} (h : Tr.Tree d t) {v : Nat} (hv : v < t.size) : 0 ≤ rd d (v : Int) ∧ rd d (v : Int) ≤ 24 := by
  have h1 := h.deg hv
  have h2 := h.fits hv
  have h3 := Tr.F.len_le (t.sub v)
  have h4 := h.few
  omega
def takeOutL (d : List Int) (t : Tr.F) (v : Nat) : List Int := (d.take v ++ d.drop (v + 1)).set (t.par 0 (-1) v).toNat (rd d (t.par 0 (-1) v) + rd d (v : Int) - 1)
theorem rd_take {d : List Int} {v p : Nat} (h : p < v) (hv : v ≤ d.length) : rd (d.take v) (p : Int) = rd d (p : Int) := by
  have e : rd d (p : Int) = rd (d.take v ++ d.drop v) (p : Int) := by rw [List.take_append_drop]
  rw [e, Tr.rd_left _ _ _ (by omega) (by simp; omega)]
def putAt (t : Tr.F) (p : Nat) (i : Int) : Int := if i < ((t.sub p).len : Int) then rd ((t.sub p).roots (p + 1)) i else ((p + 1 + (t.sub p).size : Nat) : Int)
theorem putAt_range {d : List Int} {t : Tr.F} (h : Tr.Tree d t) {p : Nat} (hp : p < t.size) {i : Int} (h0 : 0 ≤ i) : ∃ a : Nat, putAt t p i = (a : Int) ∧ p + 1 ≤ a ∧ a ≤ t.size := by
  have hf := h.fits hp
  unfold putAt
  by_cases hi : i < ((t.sub p).len : Int)
  · rw [if_pos hi]
    have hl := Tr.F.roots_len (t.sub p) (p + 1)
    have hm := Tr.rd_mem (l := (t.sub p).roots (p + 1)) h0 (by omega)
    have hr := Tr.F.roots_range _ _ _ hm
    obtain ⟨a, ha⟩ := Int.eq_ofNat_of_zero_le (show 0 ≤ rd ((t.sub p).roots (p + 1)) i by omega)
    exact ⟨a, ha, by omega, by omega⟩
  · rw [if_neg hi]
    exact ⟨_, rfl, by omega, by omega⟩
def putInL (d : List Int) (p a : Nat) (k : Int) : List Int := (d.set p (rd d (p : Int) + 1 - k)).take a ++ [k] ++ (d.set p (rd d (p : Int) + 1 - k)).drop a
theorem putInL_eq {d : List Int} {p a : Nat} (k : Int) (hp : p < a) (ha : a ≤ d.length) : (d.take a ++ [k] ++ d.drop a).set p (rd d (p : Int) + 1 - k) = putInL d p a k := by
  unfold putInL
  rw [List.take_set, List.drop_set_of_lt (by omega), List.append_assoc, List.set_append_left _ _ (by simp; omega), List.append_assoc]
theorem putInL_len {d : List Int} {p a : Nat} {k : Int} (ha : a ≤ d.length) : (putInL d p a k).length = d.length + 1 := by
  unfold putInL; simp; omega
theorem ev_l07PutIn {d : List Int} {t : Tr.F} (h : Tr.Tree d t) {p : Nat} (hp : p < t.size) {i k : Int} (h0 : 0 ≤ i) (hk0 : 0 ≤ k) (hk1 : k ≤ 24) : Ev (fun n => spec_l07PutIn.f n d (p : Int) i k) (putInL d p (putAt t p i).toNat k) := by
  have hle := h.le
  have hlen := h.len
  obtain ⟨n0, hnode⟩ := h.node hp
  have hkl : ((t.sub p).roots (p + 1)).length = (t.sub p).len := Tr.F.roots_len _ _
  obtain ⟨a, ha, ha1, ha2⟩ := putAt_range h hp h0
  have hdp : 0 ≤ rd d (p : Int) ∧ rd d (p : Int) ≤ 24 := by
    have h1 := h.deg hp
    have h2 := h.fits hp
    have h3 := Tr.F.len_le (t.sub p)
    have h4 := h.few
    omega
  unfold spec_l07PutIn.f
  refine Ev.bind (ev_l01Children (by omega) hnode) (Ev.bind (ev_l01End (by omega) hnode) ?_)
  rw [hkl, ha]
  have hl1 : (d.take (a : Int).toNat).length = a := by simp; omega
  have hl2 : (d.drop (a : Int).toNat).length = d.length - a := by simp
  have hy : rd (d.take (a : Int).toNat ++ [k] ++ d.drop (a : Int).toNat) (p : Int) = rd d (p : Int) := by
    rw [List.append_assoc, Tr.rd_left _ _ _ (by omega) (by omega), Int.toNat_natCast]
    have e : rd d (p : Int) = rd (d.take a ++ d.drop a) (p : Int) := by rw [List.take_append_drop]
    rw [e, Tr.rd_left _ _ _ (by omega) (by simp; omega)]
  have hfin : (d.take (a : Int).toNat ++ [k] ++ d.drop (a : Int).toNat).set (p : Int).toNat (rd d (p : Int) - k + 1) = putInL d p (a : Int).toNat k := by
    rw [← putInL_eq k (by simp; omega) (by simp; omega)]; simp only [Int.toNat_natCast]; congr 1; omega
  by_cases hi : i < ((t.sub p).len : Int)
  · have hav : rd ((t.sub p).roots (p + 1)) i = (a : Int) := by rw [← ha]; unfold putAt; rw [if_pos hi]
    rw [hav, l01Own_eq (d.take (a : Int).toNat) (by omega)]
    refine evpos hi (evpos h0 (evpos (by omega) (evpos (by omega) (evsome (evpos (by omega) (evsome (evpos (by simp; omega) (evsome (evpos (by omega) (evpos (by simp; omega) (evnow ?_)))))))))))
    rw [hy, Tr.wrap_id (x := rd d (p : Int) - k) (by omega) (by omega), Tr.wrap_id (by omega) (by omega)]
    exact hfin
  · have hav : ((p + 1 + (t.sub p).size : Nat) : Int) = (a : Int) := by rw [← ha]; unfold putAt; rw [if_neg hi]
    rw [hav, l01Own_eq (d.take (a : Int).toNat) (by omega)]
    refine evneg hi (evpos (by omega) (evpos (by omega) (evsome (evpos (by omega) (evsome (evpos (by simp; omega) (evsome (evpos (by omega) (evpos (by simp; omega) (evnow ?_))))))))))
    rw [hy, Tr.wrap_id (x := rd d (p : Int) - k) (by omega) (by omega), Tr.wrap_id (by omega) (by omega)]
    exact hfin
theorem ev_putIn {d : List Int} {t : Tr.F} (h : Tr.Tree d t) {p : Nat} (hp : p < t.size) {i k : Int} (h0 : 0 ≤ i) (hk0 : 0 ≤ k) (hk1 : k ≤ 24) : Ev (fun n => impl_putIn.f n d (p : Int) i k) (putInL d p (putAt t p i).toNat k) := by
  have hle := h.le
  have hlen := h.len
  obtain ⟨n0, hnode⟩ := h.node hp
  have hkl : ((t.sub p).roots (p + 1)).length = (t.sub p).len := Tr.F.roots_len _ _
  obtain ⟨a, ha, ha1, ha2⟩ := putAt_range h hp h0
  have hdp : 0 ≤ rd d (p : Int) ∧ rd d (p : Int) ≤ 24 := by
    have h1 := h.deg hp
    have h2 := h.fits hp
    have h3 := Tr.F.len_le (t.sub p)
    have h4 := h.few
    omega
  unfold impl_putIn.f
  rw [show slices_Clone.f d = some d by unfold slices_Clone.f; rw [if_pos (by omega)]]
  refine evsome (Ev.bind (ev_kidsOf (by omega) hnode) (Ev.bind (ev_endOf (by omega) hnode) ?_))
  rw [hkl, ha, Tr.wrap_id (x := 1 - k) (by omega) (by omega), Tr.wrap_id (by omega) (by omega), show rd d (p : Int) + (1 - k) = rd d (p : Int) + 1 - k by omega]
  have hins : slices_Insert.f (d.set (p : Int).toNat (rd d (p : Int) + 1 - k)) (a : Int) [k] = some (putInL d p a k) := by
    unfold slices_Insert.f putInL
    rw [if_pos ⟨by simp; omega, by simp; omega, by omega, by simp; omega, rfl⟩]
    simp only [Int.toNat_natCast]
  by_cases hi : i < ((t.sub p).len : Int)
  · have hav : rd ((t.sub p).roots (p + 1)) i = (a : Int) := by rw [← ha]; unfold putAt; rw [if_pos hi]
    rw [hav, hins]
    exact evpos hi (evpos h0 (evpos (by omega) (evpos (by omega) (evsome (evnow (by rw [Int.toNat_natCast]))))))
  · have hav : ((p + 1 + (t.sub p).size : Nat) : Int) = (a : Int) := by rw [← ha]; unfold putAt; rw [if_neg hi]
    rw [hav, hins]
    exact evneg hi (evpos (by omega) (evpos (by omega) (evsome (evnow (by rw [Int.toNat_natCast])))))
theorem ev_PutIn (d : List Int) (v i k : Int) : ∃ r : List Int × Int, Ev (fun n => spec_PutIn.f n d v i k) r ∧ Ev (fun n => impl_PutIn.f n d v i k) r ∧ r.1.length ≤ 1000 := by
  by_cases hc : Tr.codeT d [v] = 0
  · obtain ⟨ht, h0, hlt⟩ := Tr.codeT_one hc
    obtain ⟨t, h⟩ := Tr.Tree.of ht
    obtain ⟨p, rfl⟩ := Int.eq_ofNat_of_zero_le h0
    have hlen := h.len
    have hle := h.le
    have hp : p < t.size := by omega
    have hdp : 0 ≤ rd d (p : Int) ∧ rd d (p : Int) ≤ 24 := by
      have h1 := h.deg hp
      have h2 := h.fits hp
      have h3 := Tr.F.len_le (t.sub p)
      have h4 := h.few
      omega
    have hS : ∀ (c : Int) (r : List Int × Int), (c = 2 → Ev (fun n => spec_PutIn.j1 n (p : Int) i k 2 d) r) → (c = 0 → Ev (fun n => spec_PutIn.j1 n (p : Int) i k 0 d) r) → (0 ≤ i ∧ i ≤ rd d (p : Int) ∧ 0 ≤ k ∧ k ≤ rd d (p : Int) - i → c = 0) → (¬ (0 ≤ i ∧ i ≤ rd d (p : Int) ∧ 0 ≤ k ∧ k ≤ rd d (p : Int) - i) → c = 2) → Ev (fun n => spec_PutIn.f n d (p : Int) i k) r := by
      intro c r hb hg c0 c2
      unfold spec_PutIn.f
      refine Ev.bind (ev_l01Nodes d [(p : Int)] (by simp)) ?_
      rw [hc]
      refine evpos rfl (evpos h0 (evpos hlt ?_))
      rw [l01In_eq]
      refine evsome ?_
      by_cases hi : 0 ≤ i ∧ i ≤ rd d (p : Int)
      · refine evpos (decide_eq_true hi) ?_
        rw [Tr.wrap_id (x := rd d (p : Int) - i) (by omega) (by omega), l01In_eq]
        refine evsome (Ev_succ ?_)
        simp only [spec_PutIn.j0]
        by_cases hk : 0 ≤ k ∧ k ≤ rd d (p : Int) - i
        · rw [decide_eq_true hk]
          exact evneg (by simp) (hg (c0 ⟨hi.1, hi.2, hk.1, hk.2⟩))
        · rw [decide_eq_false hk]
          exact evpos (by simp) (hb (c2 (fun q => hk ⟨q.2.2.1, q.2.2.2⟩)))
      · refine evneg (by simpa using hi) (Ev_succ ?_)
        simp only [spec_PutIn.j0]
        exact evpos (by simp) (hb (c2 (fun q => hi ⟨q.1, q.2.1⟩)))
    have hI : ∀ (r : List Int × Int), (¬ (0 ≤ i ∧ i ≤ rd d (p : Int) ∧ 0 ≤ k ∧ k ≤ rd d (p : Int) - i) → Ev (fun n => impl_PutIn.j0 n (p : Int) i k true d) r) → (0 ≤ i ∧ i ≤ rd d (p : Int) ∧ 0 ≤ k ∧ k ≤ rd d (p : Int) - i → Ev (fun n => impl_PutIn.j0 n (p : Int) i k false d) r) → Ev (fun n => impl_PutIn.f n d (p : Int) i k) r := by
      intro r hb hg
      unfold impl_PutIn.f
      refine Ev.bind (ev_treeCode d [(p : Int)] (by simp)) ?_
      rw [hc]
      refine evpos rfl (evpos h0 (evpos hlt ?_))
      by_cases h1 : i < 0
      · exact evpos h1 (hb (by omega))
      refine evneg h1 ?_
      by_cases h2 : i > rd d (p : Int)
      · exact evpos h2 (hb (by omega))
      refine evneg h2 ?_
      by_cases h3 : k < 0
      · exact evpos h3 (hb (by omega))
      refine evneg h3 ?_
      rw [Tr.wrap_id (x := rd d (p : Int) - i) (by omega) (by omega)]
      by_cases h4 : k > rd d (p : Int) - i
      · rw [decide_eq_true h4]; exact hb (by omega)
      · rw [decide_eq_false h4]; exact hg (by omega)
    by_cases hg : 0 ≤ i ∧ i ≤ rd d (p : Int) ∧ 0 ≤ k ∧ k ≤ rd d (p : Int) - i
    · by_cases hm : (d.length : Int) = 24
      · refine ⟨([], 3), hS 0 _ (by omega) (fun _ => ?_) (fun _ => rfl) (fun q => absurd hg q), hI _ (fun q => absurd hg q) (fun _ => ?_), by simp⟩
        · refine Ev_succ ?_
          simp only [spec_PutIn.j1]
          rw [l01N_eq]
          refine evpos trivial (evsome (Ev_succ ?_))
          simp only [spec_PutIn.j2]
          rw [hm]
          exact evpos (by simp) (evneg (by omega) (Ev.now _))
        · refine Ev_succ ?_
          simp only [impl_PutIn.j0]
          exact evneg (by simp) (evpos hm (Ev.now _))
      · obtain ⟨a, ha, ha1, ha2⟩ := putAt_range h hp hg.1
        refine ⟨(putInL d p (putAt t p i).toNat k, 0), hS 0 _ (by omega) (fun _ => ?_) (fun _ => rfl) (fun q => absurd hg q), hI _ (fun q => absurd hg q) (fun _ => ?_), ?_⟩
        · refine Ev_succ ?_
          simp only [spec_PutIn.j1]
          rw [l01N_eq]
          refine evpos trivial (evsome (Ev_succ ?_))
          simp only [spec_PutIn.j2]
          exact evneg (by simpa using hm) (evpos trivial (Ev.bind (ev_l07PutIn h hp hg.1 (by omega) (by omega)) (Ev.now _)))
        · refine Ev_succ ?_
          simp only [impl_PutIn.j0]
          exact evneg (by simp) (evneg hm (Ev.bind (ev_putIn h hp hg.1 (by omega) (by omega)) (Ev.now _)))
        · rw [ha, Int.toNat_natCast]
          show (putInL d p a k).length ≤ 1000
          rw [putInL_len (by omega)]; omega
    · refine ⟨([], 2), hS 2 _ (fun _ => ?_) (by omega) (fun q => absurd q hg) (fun _ => rfl), hI _ (fun _ => ?_) (fun q => absurd q hg), by simp⟩
      · refine Ev_succ ?_
        simp only [spec_PutIn.j1]
        refine evneg (by omega) (Ev_succ ?_)
        simp only [spec_PutIn.j2]
        exact evneg (by simp) (evneg (by omega) (Ev.now _))
      · refine Ev_succ ?_
        simp only [impl_PutIn.j0]
        exact evpos (by simp) (Ev.now _)
  · refine ⟨([], Tr.codeT d [v]), ?_, ?_, by simp⟩
    · unfold spec_PutIn.f
      refine Ev.bind (ev_l01Nodes d [v] (by simp)) (evneg hc (Ev_succ ?_))
      simp only [spec_PutIn.j0]
      refine evneg (by simp) (Ev_succ ?_)
      simp only [spec_PutIn.j1]
      refine evneg hc (Ev_succ ?_)
      simp only [spec_PutIn.j2]
      exact evneg (by simp) (evneg hc (Ev.now _))
    · unfold impl_PutIn.f
      exact Ev.bind (ev_treeCode d [v] (by simp)) (evneg hc (Ev.now _))
theorem pure_FnExactPutIn (l0 : List Int) (a1 : Int) (a2 : Int) (a3 : Int) (hl0 : l0.length ≤ maxLen) (_ : ∀ x ∈ l0, (Lit.int .i64 x).wf = true) (_ : (Lit.int .i64 a1).wf = true) (_ : (Lit.int .i64 a2).wf = true) (_ : (Lit.int .i64 a3).wf = true) : ∃ k, laws_FnExactPutIn.f k l0 a1 a2 a3 = some true := by
  unfold maxLen at hl0
  refine Ev.rounds ?_
  unfold laws_FnExactPutIn.f
  rw [szTree_eq l0 (1048576) (by omega) (by omega) (by omega)]
  refine evsome ?_
  by_cases hs0 : (1048576 : Int) - l0.length < 0
  · rw [if_pos hs0]; exact evpos (by omega) (Ev.now _)
  rw [if_neg hs0]
  refine evneg hs0 ?_
  obtain ⟨r, hq, hi, hb⟩ := ev_PutIn l0 a1 a2 a3
  repeat first
    | exact Ev.now _
    | refine Ev.bind hq ?_
    | refine Ev.bind hi ?_
    | refine Ev.bind (ev_toTree l0 (by omega)) ?_
    | refine Ev.bind (ev_eqTree l0 l0 (by omega) (by omega)) ?_
    | refine Ev.bind (ev_markTree l0 _ (by first | omega | simp) (by first | omega | (simp; omega))) ?_
    | refine Ev.bind (ev_eqTree _ _ (by omega) (by omega)) ?_
    | refine Ev.bind (ev_markTree _ _ (by first | omega | simp) (by first | omega | (simp; omega))) ?_
    | refine Ev.bind (ev_heldTree _ _ (by first | omega | simp) (by first | omega | (simp; omega))) ?_
    | (refine evpos ?_ ?_; first | rfl | (simp <;> fail))
    | (refine evneg ?_ ?_; first | (simp <;> fail) | (simp <;> omega))
end Go.Proofs.Yteangdgmokkjbab.QFnExactPutIn
