import Derived.Test.YteangdgmokkjbabQFnExactTidyWidthx
import Derived.Test.YteangdgmokkjbabTr
import Derived.Test.YteangdgmokkjbabNd
import Derived.Test.YteangdgmokkjbabTd
import Derived.Test.YteangdgmokkjbabDc
namespace Go.Proofs.Yteangdgmokkjbab.QFnExactTidyWidth
open Go.RowKit Go.Proofs.YteangdgmokkjbabW.PrintWords Go.Proofs.YteangdgmokkjbabW.PrintLast Go.Proofs.YteangdgmokkjbabW.PrintMore Go.Proofs.Yteangdgmokkjbab
set_option linter.unusedVariables false
set_option linter.unusedSimpArgs false
theorem Ev_succ {α : Type} {g : Nat → Option α} {r : α} (h : Ev (fun k => g (k + 1)) r) : Ev g r := Ev.step (fun _ => rfl) h
theorem evpos {α : Type} {c : Prop} [Decidable c] {f g : Nat → Option α} {r : α} (h : c) (k : Ev f r) : Ev (fun n => if c then f n else g n) r := by
  simp only [if_pos h]; exact k
theorem evneg {α : Type} {c : Prop} [Decidable c] {f g : Nat → Option α} {r : α} (h : ¬ c) (k : Ev g r) : Ev (fun n => if c then f n else g n) r := by
  simp only [if_neg h]; exact k
theorem evsome {α β : Type} {a : α} {f : Nat → α → Option β} {r : β} (k : Ev (fun n => f n a) r) : Ev (fun n => (some a).bind (f n)) r := k
theorem evnow {α : Type} {a r : α} (h : a = r) : Ev (fun _ => some a) r := by subst h; exact Ev.now _
theorem ev_eq_l0 (xs ys : List Int) (hl : xs.length = ys.length) (hb : xs.length ≤ 1152921504606846976) : ∀ (n i : Nat), i + n = xs.length →
    Ev (fun k => laws_eqInt64S.l0 k xs ys (i : Nat)) (decide (xs.drop i = ys.drop i)) := by
  intro n
  induction n with
  | zero =>
    intro i hi
    refine Ev_succ ?_
    simp only [laws_eqInt64S.l0]
    refine evneg (by omega) (evnow ?_)
    rw [List.drop_of_length_le (by omega), List.drop_of_length_le (by omega)]; rfl
  | succ n ih =>
    intro i hi
    refine Ev_succ ?_
    simp only [laws_eqInt64S.l0]
    refine evpos (by omega) (evpos (by omega) (evpos (by omega) ?_))
    rw [Tr.rd_getElem (by omega : i < xs.length), Tr.rd_getElem (by omega : i < ys.length)]
    have e : wrap64 ((i : Int) + 1) = ((i + 1 : Nat) : Int) := by rw [Tr.wrap_id (by omega) (by omega)]; omega
    rw [e]
    have e3 : (xs.drop i = ys.drop i) = (xs[i] = ys[i] ∧ xs.drop (i + 1) = ys.drop (i + 1)) := by
      rw [List.drop_eq_getElem_cons (by omega : i < xs.length), List.drop_eq_getElem_cons (by omega : i < ys.length)]
      exact List.cons.injEq _ _ _ _
    have e4 : decide (xs.drop i = ys.drop i) = decide (xs[i] = ys[i] ∧ xs.drop (i + 1) = ys.drop (i + 1)) := by simp only [e3]
    rw [e4]
    by_cases h : xs[i] = ys[i]
    · refine evpos h ?_
      have := ih (i + 1) (by omega)
      rw [show decide (xs[i] = ys[i] ∧ xs.drop (i + 1) = ys.drop (i + 1)) = decide (xs.drop (i + 1) = ys.drop (i + 1)) by simp only [h, true_and]]
      exact this
    · refine evneg h (evnow ?_)
      simp only [h, false_and, decide_false]
theorem ev_eqInt64S (xs ys : List Int) (hb : xs.length ≤ 1152921504606846976) (hc : ys.length ≤ 1152921504606846976) : Ev (fun k => laws_eqInt64S.f k xs ys) (decide (xs = ys)) := by
  unfold laws_eqInt64S.f
  by_cases h : xs.length = ys.length
  · refine evpos (by omega) ?_
    have := ev_eq_l0 xs ys h hb xs.length 0 (by omega)
    simpa using this
  · refine evneg (by omega) (evnow ?_)
    rw [eq_comm, decide_eq_false_iff_not]
    intro e; exact h (by rw [e])
theorem ev_eqTree (xs ys : List Int) (hb : xs.length ≤ 1152921504606846976) (hc : ys.length ≤ 1152921504606846976) : Ev (fun k => laws_eqTree.f k xs ys) (decide (xs = ys)) := by
  unfold laws_eqTree.f
  refine Ev.bind (ev_eqInt64S xs ys hb hc) ?_
  by_cases h : xs = ys
  · rw [decide_eq_true h]; exact evpos rfl (Ev.now _)
  · rw [decide_eq_false h]; exact evneg (by simp) (Ev.now _)
theorem szInt64S_eq (xs : List Int) (a : Int) (h0 : 0 ≤ a) (h1 : a ≤ 1048576) (hb : xs.length ≤ 9223372036854775807) : laws_szInt64S.f xs a = some (if a - xs.length < 0 then -1 else a - xs.length) := by
  unfold laws_szInt64S.f
  rw [Tr.wrap_id (by omega) (by omega)]
  split <;> rfl
theorem szTree_eq (xs : List Int) (a : Int) (h0 : 0 ≤ a) (h1 : a ≤ 1048576) (hb : xs.length ≤ 9223372036854775807) : laws_szTree.f xs a = some (if a - xs.length < 0 then -1 else a - xs.length) := by
  unfold laws_szTree.f
  rw [szInt64S_eq xs a h0 h1 hb]
  simp only [Option.bind_some]
  by_cases h : a - xs.length < 0
  · simp only [if_pos h]; rfl
  · simp only [if_neg h]
theorem ev_to_l0 (xs : List Int) (hb : xs.length ≤ 35184372088832) : ∀ (n i : Nat) (ys : List Int), i + n = xs.length → ys.length = xs.length → ys.take i = xs.take i →
    Ev (fun k => laws_toInt64S.l0 k xs ys (i : Nat)) xs := by
  intro n
  induction n with
  | zero =>
    intro i ys hi hy ht
    refine Ev_succ ?_
    simp only [laws_toInt64S.l0]
    refine evneg (by omega) (evnow ?_)
    rwa [List.take_of_length_le (by omega), List.take_of_length_le (by omega)] at ht
  | succ n ih =>
    intro i ys hi hy ht
    refine Ev_succ ?_
    simp only [laws_toInt64S.l0]
    refine evpos (by omega) (evpos (by omega) (evpos (by omega) ?_))
    have e : wrap64 ((i : Int) + 1) = ((i + 1 : Nat) : Int) := by rw [Tr.wrap_id (by omega) (by omega)]; omega
    rw [e, Tr.rd_getElem (by omega : i < xs.length), Int.toNat_natCast]
    refine ih (i + 1) _ (by omega) (by simp [hy]) ?_
    rw [List.take_succ_eq_append_getElem (by simp; omega), List.take_succ_eq_append_getElem (by omega)]
    simp [List.take_set_of_le, ht]
theorem ev_toInt64S (xs : List Int) (hb : xs.length ≤ 35184372088832) : Ev (fun k => laws_toInt64S.f k xs) xs := by
  unfold laws_toInt64S.f
  refine evpos (by omega) (evpos (by omega) ?_)
  have := ev_to_l0 xs hb xs.length 0 (List.replicate xs.length 0) (by omega) (by simp) (by simp)
  simpa using this
theorem ev_toTree (xs : List Int) (hb : xs.length ≤ 35184372088832) : Ev (fun k => laws_toTree.f k xs) xs := by
  unfold laws_toTree.f
  exact Ev.bind (ev_toInt64S xs hb) (Ev.now _)
/-- The numbers m, m + 1, .. -/
def up (m : Int) : Nat → List Int
  | 0 => []
  | n + 1 => m :: up (m + 1) n
theorem up_len (n : Nat) : ∀ m, (up m n).length = n := by
  induction n with
  | zero => intro m; rfl
  | succ n ih => intro m; simp [up, ih]
theorem up_get (n : Nat) : ∀ (m : Int) (i : Nat) (h : i < (up m n).length), (up m n)[i] = m + i := by
  induction n with
  | zero => intro m i h; simp [up] at h
  | succ n ih =>
    intro m i h
    cases i with
    | zero => simp [up]
    | succ i => simp only [up, List.getElem_cons_succ, ih]; omega
theorem ev_isTree_l0 : ∀ (l pre : List Int) (m : Int) (n : Int), n = ((pre ++ l).length : Int) → n ≤ 1000 → 0 ≤ m → m + 24 * l.length ≤ 100000 →
    Ev (fun k => impl_isTree.l0 k m (pre ++ l) n (pre.length : Int)) (Tr.ok l m) := by
  intro l
  induction l with
  | nil =>
    intro pre m n hn hb h0 h1
    refine Ev_succ ?_
    simp only [impl_isTree.l0]
    simp only [List.length_append, List.length_nil] at hn
    refine evneg (by omega) (evnow ?_)
    rfl
  | cons x l ih =>
    intro pre m n hn hb h0 h1
    refine Ev_succ ?_
    simp only [impl_isTree.l0]
    have hn' := hn
    simp only [List.length_append, List.length_cons] at hn h1 ⊢
    refine evpos (by omega) (evpos (by omega) (evpos (by simp; omega) ?_))
    have e : rd (pre ++ x :: l) (pre.length : Int) = x := by rw [Tr.rd_app0]; exact Tr.rd_cons0 _ _
    rw [e]
    by_cases hm : m = 0
    · refine evpos hm (evnow ?_); simp [Tr.ok, hm]
    · refine evneg hm ?_
      by_cases hx : x < 0
      · refine evpos hx (evnow ?_); simp [Tr.ok, hm, Int.not_le.mpr hx]
      · refine evneg hx ?_
        by_cases hy : x ≥ 24
        · refine evpos hy (evnow ?_); simp [Tr.ok, hm, Int.not_lt.mpr hy]
        · refine evneg hy ?_
          have e2 : wrap64 (m + wrap64 (x - 1)) = m - 1 + x := by rw [Tr.wrap_id (x := x - 1) (by omega) (by omega), Tr.wrap_id (by omega) (by omega)]; omega
          have e3 : wrap64 ((pre.length : Int) + 1) = ((pre ++ [x]).length : Int) := by rw [Tr.wrap_id (by omega) (by omega)]; simp
          rw [e2, e3]
          have := ih (pre ++ [x]) (m - 1 + x) n (by simp; omega) hb (by omega) (by omega)
          simp only [List.append_assoc, List.singleton_append] at this
          rw [show Tr.ok (x :: l) m = Tr.ok l (m - 1 + x) by
            have : (m != 0) = true := bne_iff_ne.mpr hm
            have h4 : decide (0 ≤ x) = true := decide_eq_true (by omega)
            have h5 : decide (x < 24) = true := decide_eq_true (by omega)
            simp only [Tr.ok, this, h4, h5, Bool.true_and]]
          exact this
theorem ev_isTree (d : List Int) : Ev (fun k => impl_isTree.f k d) (Tr.isT d) := by
  unfold impl_isTree.f
  by_cases h : (d.length : Int) < 1
  · refine evpos h (Ev_succ ?_)
    simp only [impl_isTree.j0]
    refine evpos (by simp) (evnow ?_)
    simp only [Tr.isT, decide_eq_false (by omega : ¬ 1 ≤ d.length), Bool.false_and]
  · refine evneg h (Ev_succ ?_)
    simp only [impl_isTree.j0]
    by_cases h2 : (d.length : Int) > 24
    · refine evpos (decide_eq_true h2) (evnow ?_)
      simp only [Tr.isT, decide_eq_false (by omega : ¬ d.length ≤ 24), Bool.false_and, Bool.and_false]
    · refine evneg (by simpa using h2) ?_
      have := ev_isTree_l0 d [] 1 d.length (by simp) (by omega) (by omega) (by omega)
      rw [show Tr.isT d = Tr.ok d 1 by simp only [Tr.isT, decide_eq_true (by omega : 1 ≤ d.length), decide_eq_true (by omega : d.length ≤ 24), Bool.true_and]]
      exact this
theorem ev_IsTree (d : List Int) : Ev (fun k => impl_IsTree.f k d) (Tr.isT d) := by
  unfold impl_IsTree.f
  exact Ev.bind (ev_isTree d) (Ev.now _)
theorem l01In_eq (a b c : Int) : spec_l01In.f a b c = some (decide (b ≤ a ∧ a ≤ c)) := by
  unfold spec_l01In.f
  by_cases h : a ≥ b
  · rw [if_pos h]; congr 1; simp; omega
  · rw [if_neg h]; congr 1; symm; simp; omega
theorem l01N_eq (d : List Int) : spec_l01N.f d = some (d.length : Int) := rfl
theorem ev_l01Is_l0 : ∀ (l pre : List Int) (m : Int), (pre ++ l).length ≤ 24 → 0 ≤ m → (m ≥ 1 ∨ True) → m + 25 * l.length ≤ 100000 →
    Ev (fun k => spec_l01Is.l0 k m (pre.length : Int) (pre ++ l)) (Tr.ok25 l m) := by
  intro l
  induction l with
  | nil =>
    intro pre m hb h0 _ h1
    refine Ev_succ ?_
    simp only [spec_l01Is.l0, List.length_append, List.length_nil]
    refine evneg (by omega) (evnow ?_)
    rfl
  | cons x l ih =>
    intro pre m hb h0 _ h1
    refine Ev_succ ?_
    simp only [spec_l01Is.l0]
    simp only [List.length_append, List.length_cons] at h1 hb ⊢
    refine evpos (by omega) ?_
    have e : rd (pre ++ x :: l) (pre.length : Int) = x := by rw [Tr.rd_app0]; exact Tr.rd_cons0 _ _
    rw [e, l01In_eq]
    by_cases hm : m = 0
    · refine evpos hm (evnow ?_); simp [Tr.ok25, hm]
    · refine evneg hm (evpos (by omega) (evsome ?_))
      by_cases hx : 0 ≤ x ∧ x ≤ 24
      · refine evpos (decide_eq_true hx) ?_
        have e2 : wrap64 (wrap64 (m - 1) + x) = m - 1 + x := by rw [Tr.wrap_id (x := m - 1) (by omega) (by omega), Tr.wrap_id (by omega) (by omega)]
        have e3 : wrap64 ((pre.length : Int) + 1) = ((pre ++ [x]).length : Int) := by rw [Tr.wrap_id (by omega) (by omega)]; simp
        rw [e2, e3]
        have := ih (pre ++ [x]) (m - 1 + x) (by simp; omega) (by omega) (.inr trivial) (by omega)
        simp only [List.append_assoc, List.singleton_append] at this
        rw [show Tr.ok25 (x :: l) m = Tr.ok25 l (m - 1 + x) by
          have : (m != 0) = true := bne_iff_ne.mpr hm
          simp only [Tr.ok25, this, decide_eq_true hx, Bool.true_and]]
        exact this
      · refine evneg (by simpa using hx) (evnow ?_)
        simp only [Tr.ok25, decide_eq_false hx, Bool.false_and, Bool.and_false]
theorem ev_l01Is (d : List Int) : Ev (fun k => spec_l01Is.f k d) (Tr.isT d) := by
  unfold spec_l01Is.f
  rw [l01N_eq]
  refine evsome ?_
  rw [l01In_eq]
  refine evsome ?_
  by_cases h : (1 : Int) ≤ (d.length : Int) ∧ (d.length : Int) ≤ 24
  · refine evpos (decide_eq_true h) ?_
    have := ev_l01Is_l0 d [] 1 (by simp; omega) (by omega) (.inr trivial) (by omega)
    rw [Tr.isT_eq25 d (by omega) (by omega)]
    exact this
  · refine evneg (by simpa using h) (evnow ?_)
    simp only [Tr.isT]
    by_cases h2 : 1 ≤ d.length
    · simp only [decide_eq_false (by omega : ¬ d.length ≤ 24), Bool.false_and, Bool.and_false]
    · simp only [decide_eq_false h2, Bool.false_and]
theorem ev_endOf_l0 (d : List Int) (hd : d.length ≤ 1000) (r : Int) : ∀ (g : Tr.F) (p j : Nat), Tr.Pl d p g → j + g.size ≤ 100000 →
    Ev (fun k => impl_endOf.l0 k d ((p + g.size : Nat) : Int) (j : Int)) r → Ev (fun k => impl_endOf.l0 k d (p : Int) ((g.len + j : Nat) : Int)) r := by
  intro g
  induction g with
  | nil => intro p j _ _ h; simpa [Tr.F.size, Tr.F.len] using h
  | cons b n hb hn =>
    intro p j hp hj h
    have hle := hp.le
    simp only [Tr.F.size] at hle hj
    have l1 := Tr.F.len_le b
    have l2 := Tr.F.len_le n
    refine Ev_succ ?_
    simp only [impl_endOf.l0, Tr.F.len]
    refine evpos (by omega) (evpos (by omega) (evpos (by omega) ?_))
    rw [hp.deg]
    have e : wrap64 ((p : Int) + 1) = ((p + 1 : Nat) : Int) := by rw [Tr.wrap_id (by omega) (by omega)]; omega
    have e2 : wrap64 (((1 + n.len + j : Nat) : Int) + wrap64 ((b.len : Int) - 1)) = ((b.len + (n.len + j) : Nat) : Int) := by
      rw [Tr.wrap_id (x := (b.len : Int) - 1) (by omega) (by omega), Tr.wrap_id (by omega) (by omega)]; omega
    rw [e, e2]
    refine hb (p + 1) (n.len + j) hp.below (by omega) ?_
    refine hn (p + 1 + b.size) j hp.next (by omega) ?_
    rw [show p + 1 + b.size + n.size = p + (Tr.F.cons b n).size by simp only [Tr.F.size]; omega]
    exact h
theorem ev_endOf {d : List Int} (hd : d.length ≤ 1000) {p : Nat} {b n : Tr.F} (h : Tr.Pl d p (.cons b n)) : Ev (fun k => impl_endOf.f k d (p : Int)) ((p + 1 + b.size : Nat) : Int) := by
  unfold impl_endOf.f
  have := ev_endOf_l0 d hd ((p + 1 + b.size : Nat) : Int) (.cons b .nil) p 0 h.one (by have := h.le; simp only [Tr.F.size] at this ⊢; omega)
  simp only [Tr.F.len, Tr.F.size] at this
  refine this ?_
  refine Ev_succ ?_
  simp only [impl_endOf.l0]
  refine evneg (by omega) (evnow (by omega))
theorem ev_l01End_l0 (d : List Int) (hd : d.length ≤ 1000) (r : Int) : ∀ (g : Tr.F) (p j : Nat), Tr.Pl d p g → j + g.size ≤ 100000 →
    Ev (fun k => spec_l01End.l0 k ((p + g.size : Nat) : Int) (j : Int) d) r → Ev (fun k => spec_l01End.l0 k (p : Int) ((g.len + j : Nat) : Int) d) r := by
  intro g
  induction g with
  | nil => intro p j _ _ h; simpa [Tr.F.size, Tr.F.len] using h
  | cons b n hb hn =>
    intro p j hp hj h
    have hle := hp.le
    simp only [Tr.F.size] at hle hj
    have l1 := Tr.F.len_le b
    have l2 := Tr.F.len_le n
    refine Ev_succ ?_
    simp only [spec_l01End.l0, Tr.F.len]
    refine evpos (by omega) (evpos (by omega) (evpos (by omega) ?_))
    rw [hp.deg]
    have e : wrap64 ((p : Int) + 1) = ((p + 1 : Nat) : Int) := by rw [Tr.wrap_id (by omega) (by omega)]; omega
    have e2 : wrap64 (wrap64 (((1 + n.len + j : Nat) : Int) - 1) + (b.len : Int)) = ((b.len + (n.len + j) : Nat) : Int) := by
      rw [Tr.wrap_id (x := ((1 + n.len + j : Nat) : Int) - 1) (by omega) (by omega), Tr.wrap_id (by omega) (by omega)]; omega
    rw [e, e2]
    refine hb (p + 1) (n.len + j) hp.below (by omega) ?_
    refine hn (p + 1 + b.size) j hp.next (by omega) ?_
    rw [show p + 1 + b.size + n.size = p + (Tr.F.cons b n).size by simp only [Tr.F.size]; omega]
    exact h
theorem ev_l01End {d : List Int} (hd : d.length ≤ 1000) {p : Nat} {b n : Tr.F} (h : Tr.Pl d p (.cons b n)) : Ev (fun k => spec_l01End.f k d (p : Int)) ((p + 1 + b.size : Nat) : Int) := by
  unfold spec_l01End.f
  have := ev_l01End_l0 d hd ((p + 1 + b.size : Nat) : Int) (.cons b .nil) p 0 h.one (by have := h.le; simp only [Tr.F.size] at this ⊢; omega)
  simp only [Tr.F.len, Tr.F.size] at this
  refine this ?_
  refine Ev_succ ?_
  simp only [spec_l01End.l0]
  refine evneg (by omega) (evnow (by omega))
theorem ev_kidsOf_l0 (d : List Int) (hd : d.length ≤ 1000) : ∀ (g : Tr.F) (p i N : Nat) (out : List Int), Tr.Pl d p g → i + g.len = N → N ≤ 1000 → out.length ≤ i →
    Ev (fun k => impl_kidsOf.l0 k d out (p : Int) (N : Int) (i : Int)) (out ++ g.roots p) := by
  intro g
  induction g with
  | nil =>
    intro p i N out hp hi hN ho
    simp only [Tr.F.len] at hi
    refine Ev_succ ?_
    simp only [impl_kidsOf.l0]
    refine evneg (by omega) (evnow ?_)
    simp [Tr.F.roots]
  | cons b n hb hn =>
    intro p i N out hp hi hN ho
    simp only [Tr.F.len] at hi
    refine Ev_succ ?_
    simp only [impl_kidsOf.l0]
    refine evpos (by omega) (evpos (by omega) (Ev.bind (ev_endOf hd hp) ?_))
    have e : wrap64 ((i : Int) + 1) = ((i + 1 : Nat) : Int) := by rw [Tr.wrap_id (by omega) (by omega)]; omega
    rw [e]
    have := hn (p + 1 + b.size) (i + 1) N (out ++ [(p : Int)]) hp.next (by omega) hN (by simp; omega)
    simpa [Tr.F.roots] using this
theorem ev_kidsOf {d : List Int} (hd : d.length ≤ 1000) {p : Nat} {b n : Tr.F} (h : Tr.Pl d p (.cons b n)) : Ev (fun k => impl_kidsOf.f k d (p : Int)) (b.roots (p + 1)) := by
  have hle := h.le
  simp only [Tr.F.size] at hle
  have l1 := Tr.F.len_le b
  unfold impl_kidsOf.f
  refine evpos (by omega) (evpos (by omega) ?_)
  have e : wrap64 ((p : Int) + 1) = ((p + 1 : Nat) : Int) := by rw [Tr.wrap_id (by omega) (by omega)]; omega
  rw [h.deg, e]
  have := ev_kidsOf_l0 d hd b (p + 1) 0 b.len [] h.below (by omega) (by omega) (by simp)
  simpa using this
theorem ev_l01Children_l0 (d : List Int) (hd : d.length ≤ 1000) : ∀ (g : Tr.F) (p : Nat) (out : List Int), Tr.Pl d p g → out.length + g.len ≤ 1000 →
    Ev (fun k => spec_l01Children.l0 k out (p : Int) (g.len : Int) d) (out ++ g.roots p) := by
  intro g
  induction g with
  | nil =>
    intro p out hp ho
    refine Ev_succ ?_
    simp only [spec_l01Children.l0, Tr.F.len]
    refine evneg (by omega) (evnow ?_)
    simp [Tr.F.roots]
  | cons b n hb hn =>
    intro p out hp ho
    simp only [Tr.F.len] at ho
    refine Ev_succ ?_
    simp only [spec_l01Children.l0, Tr.F.len]
    refine evpos (by omega) (evpos (by omega) (Ev.bind (ev_l01End hd hp) ?_))
    have e : wrap64 (((1 + n.len : Nat) : Int) - 1) = (n.len : Int) := by rw [Tr.wrap_id (by omega) (by omega)]; omega
    rw [e]
    have := hn (p + 1 + b.size) (out ++ [(p : Int)]) hp.next (by simp; omega)
    simpa [Tr.F.roots] using this
theorem ev_l01Children {d : List Int} (hd : d.length ≤ 1000) {p : Nat} {b n : Tr.F} (h : Tr.Pl d p (.cons b n)) : Ev (fun k => spec_l01Children.f k d (p : Int)) (b.roots (p + 1)) := by
  have hle := h.le
  simp only [Tr.F.size] at hle
  have l1 := Tr.F.len_le b
  unfold spec_l01Children.f
  refine evpos (by omega) (evpos (by omega) ?_)
  have e : wrap64 ((p : Int) + 1) = ((p + 1 : Nat) : Int) := by rw [Tr.wrap_id (by omega) (by omega)]; omega
  rw [h.deg, e]
  have := ev_l01Children_l0 d hd b (p + 1) [] h.below (by simp; omega)
  simpa using this
theorem ev_l01Parents_l1 (d : List Int) (v : Nat) (hv : v ≤ 1000) (r : List Int) : ∀ (l pre out : List Int), (pre ++ l).length ≤ 1000 → (∀ c ∈ l, 0 ≤ c ∧ c < out.length) →
    Ev (fun k => spec_l01Parents.l0 k (Tr.setAll out l v) ((v + 1 : Nat) : Int) d) r → Ev (fun k => spec_l01Parents.l1 k out (v : Int) (pre ++ l) (pre.length : Int) d) r := by
  intro l
  induction l with
  | nil =>
    intro pre out hb _ h
    refine Ev_succ ?_
    simp only [spec_l01Parents.l1]
    refine evneg (by simp) ?_
    have e : wrap64 ((v : Int) + 1) = ((v + 1 : Nat) : Int) := by rw [Tr.wrap_id (by omega) (by omega)]; omega
    rw [e]; exact h
  | cons c l ih =>
    intro pre out hb hc h
    have h1 := hc c (List.mem_cons_self ..)
    refine Ev_succ ?_
    simp only [spec_l01Parents.l1]
    have e : rd (pre ++ c :: l) (pre.length : Int) = c := by rw [Tr.rd_app0]; exact Tr.rd_cons0 _ _
    have hb' := hb
    simp only [List.length_append, List.length_cons] at hb
    have e3 : wrap64 ((pre.length : Int) + 1) = ((pre ++ [c]).length : Int) := by rw [Tr.wrap_id (by omega) (by omega)]; simp
    refine evpos (by simp; omega) (evpos (by omega) (evpos (by rw [e]; omega) (evpos (by rw [e]; omega) ?_)))
    rw [e, e3]
    have := ih (pre ++ [c]) (out.set c.toNat v) (by simpa using hb') (fun x hx => by have := hc x (List.mem_cons_of_mem _ hx); simpa using this) h
    simpa using this
theorem ev_l01Parents_l0 {d : List Int} {t : Tr.F} (h : Tr.Tree d t) : ∀ (m v : Nat) (out : List Int), v + m = t.size → out.length = t.size → (∀ c : Nat, c < t.size → t.par 0 (-1) c < v → rd out (c : Int) = t.par 0 (-1) c) →
    Ev (fun k => spec_l01Parents.l0 k out (v : Int) d) (Tr.parentsL t) := by
  have hle := h.le
  have hlen := h.len
  intro m
  induction m with
  | zero =>
    intro v out hv ho hi
    refine Ev_succ ?_
    simp only [spec_l01Parents.l0, l01N_eq]
    refine evsome (evneg (by omega) (evnow ?_))
    refine Tr.each_eq ho (fun c hc => hi c hc ?_)
    have := (h.par_lt hc).2; omega
  | succ m ih =>
    intro v out hv ho hi
    refine Ev_succ ?_
    simp only [spec_l01Parents.l0, l01N_eq]
    obtain ⟨n, hp⟩ := h.node (v := v) (by omega)
    refine evsome (evpos (by omega) (Ev.bind (ev_l01Children (by omega) hp) ?_))
    have hk : ∀ c ∈ (t.sub v).roots (v + 1), 0 ≤ c ∧ c < out.length := fun c hc => by have := h.kid_range (v := v) (by omega) hc; omega
    refine ev_l01Parents_l1 d v (by omega) _ _ [] out ?_ hk ?_
    · have := Tr.F.len_le (t.sub v)
      have := h.fits (v := v) (by omega)
      rw [List.nil_append, Tr.F.roots_len]; omega
    · refine ih (v + 1) _ (by omega) (by rw [Tr.setAll_len]; exact ho) (fun c hc hpc => ?_)
      rw [Tr.setAll_rd v _ _ _ (fun x hx => (hk x hx).1) (by omega)]
      by_cases e : (c : Int) ∈ (t.sub v).roots (v + 1)
      · rw [if_pos e]; exact ((h.kids (by omega) hc).1 e).symm
      · rw [if_neg e]
        refine hi c hc ?_
        have : ¬ t.par 0 (-1) c = v := fun e' => e ((h.kids (by omega) hc).2 e')
        omega
theorem ev_l01Parents {d : List Int} {t : Tr.F} (h : Tr.Tree d t) : Ev (fun k => spec_l01Parents.f k d) (Tr.parentsL t) := by
  have hle := h.le
  have hlen := h.len
  have hpos := h.pos
  unfold spec_l01Parents.f
  rw [l01N_eq]
  refine evsome (evpos (by omega) (evpos (by omega) (evsome (evpos (by simp; omega) ?_))))
  refine ev_l01Parents_l0 h t.size 0 _ (by omega) (by simp; omega) (fun c hc hp => ?_)
  have e : c = 0 := by
    by_cases e : c = 0
    · exact e
    · have := h.par_pos (c := c) (by omega) hc; omega
  subst e
  rw [h.par_zero]
  have := Tr.rd_set (l := List.replicate (d.length : Int).toNat 0) (c := 0) (x := -1) (i := 0) (by simp; omega) (by omega)
  simpa using this
theorem ev_l01Depths_l0 {d : List Int} {t : Tr.F} (h : Tr.Tree d t) : ∀ (m v : Nat) (out : List Int), v + m = t.size → 1 ≤ v → out.length = t.size → (∀ c : Nat, c < v → rd out (c : Int) = t.dep 0 0 c) →
    Ev (fun k => spec_l01Depths.l0 k (Tr.parentsL t) out (v : Int)) (Tr.depthsL t) := by
  have hle := h.le
  have hlen := h.len
  have hpl : (Tr.parentsL t).length = t.size := Tr.each_len _ _
  intro m
  induction m with
  | zero =>
    intro v out hv h1 ho hi
    refine Ev_succ ?_
    simp only [spec_l01Depths.l0]
    refine evneg (by omega) (evnow ?_)
    exact Tr.each_eq ho (fun c hc => hi c (by omega))
  | succ m ih =>
    intro v out hv h1 ho hi
    have hp := h.par_pos h1 (by omega)
    have hst := h.dep_step h1 (by omega)
    obtain ⟨q, hq⟩ : ∃ q : Nat, t.par 0 (-1) v = (q : Int) := ⟨(t.par 0 (-1) v).toNat, by omega⟩
    have hr : rd (Tr.parentsL t) (v : Int) = q := (Tr.each_rd (by omega)).trans hq
    have hd := hi q (by omega)
    have hdr := h.dep_range q (by omega)
    rw [hq, Int.toNat_natCast] at hst
    refine Ev_succ ?_
    simp only [spec_l01Depths.l0]
    rw [hr]
    clear hr
    rw [hd]
    clear hd
    have hnext := ih (v + 1) (out.set v (t.dep 0 0 q + 1)) (by omega) (by omega) (by simpa using ho) (fun c hc => by
      have := Tr.rd_set (l := out) (c := (v : Int)) (x := t.dep 0 0 q + 1) (i := c) (by omega) (by omega)
      rw [Int.toNat_natCast] at this
      rw [this]
      by_cases e : (v : Int) = c
      · rw [if_pos e, ← hst]; congr 1; omega
      · rw [if_neg e]; exact hi c (by omega))
    generalize t.dep 0 0 q = x at hdr hnext ⊢
    clear hst hi
    refine evpos (by omega) (evpos (by omega) (evpos (by omega) (evpos (by omega) (evpos (by omega) ?_))))
    rw [Tr.wrap_succ (by omega), Tr.wrap_id (by omega) (by omega), Int.toNat_natCast]
    exact hnext
theorem ev_l01Depths {d : List Int} {t : Tr.F} (h : Tr.Tree d t) : Ev (fun k => spec_l01Depths.f k d) (Tr.depthsL t) := by
  have hle := h.le
  have hlen := h.len
  have hpos := h.pos
  unfold spec_l01Depths.f
  refine Ev.bind (ev_l01Parents h) ?_
  rw [l01N_eq]
  refine evsome (evpos (by omega) (evpos (by omega) ?_))
  refine ev_l01Depths_l0 h (t.size - 1) 1 _ (by omega) (by omega) (by simp; omega) (fun c hc => ?_)
  obtain rfl : c = 0 := by omega
  rw [h.dep_zero, Tr.rd_getElem (by simp; omega)]
  simp
theorem l08Half_eq (a : Int) (h0 : 0 ≤ a) (h1 : a ≤ 1000000) : spec_l08Half.f a = some (a / 2) := by
  unfold spec_l08Half.f
  rw [if_neg (by omega)]
  have e : Int.tdiv a 2 = a / 2 := Int.tdiv_eq_ediv_of_nonneg h0
  rw [e, Tr.wrap_id (by omega) (by omega)]
theorem deg_range {d : List Int} {t : Tr.F} (h : Tr.Tree d t) {v : Nat} (hv : v < t.size) : 0 ≤ rd d (v : Int) ∧ rd d (v : Int) ≤ 24 := by
  have h1 := h.deg hv
  have h2 := h.fits hv
  have h3 := Tr.F.len_le (t.sub v)
  have h4 := h.few
  omega
def takeOutL (d : List Int) (t : Tr.F) (v : Nat) : List Int := (d.take v ++ d.drop (v + 1)).set (t.par 0 (-1) v).toNat (rd d (t.par 0 (-1) v) + rd d (v : Int) - 1)
theorem rd_take {d : List Int} {v p : Nat} (h : p < v) (hv : v ≤ d.length) : rd (d.take v) (p : Int) = rd d (p : Int) := by
  have e : rd d (p : Int) = rd (d.take v ++ d.drop v) (p : Int) := by rw [List.take_append_drop]
  rw [e, Tr.rd_left _ _ _ (by omega) (by simp; omega)]
theorem ev_Max_l0 (l : List Int) (hl : l.length ≤ 1000) : ∀ (m i b : Nat), i + m = l.length → Ev (fun k => slices_Max_int64_int64.l0 k l (rd l (b : Int)) (i : Int)) (rd l (Tr.amx l m i b : Int)) := by
  intro m
  induction m with
  | zero =>
    intro i b hi
    refine Ev_succ ?_
    simp only [slices_Max_int64_int64.l0]
    exact evneg (by omega) (Ev.now _)
  | succ m ih =>
    intro i b hi
    refine Ev_succ ?_
    simp only [slices_Max_int64_int64.l0]
    rw [Tr.wrap_succ (by omega)]
    refine evpos (by omega) (evpos (by omega) ?_)
    unfold Tr.amx
    by_cases h : rd l (i : Int) > rd l (b : Int)
    · rw [if_pos h, show mx (rd l (b : Int)) (rd l (i : Int)) = rd l (i : Int) by unfold mx; omega]
      exact ih (i + 1) i (by omega)
    · rw [if_neg h, show mx (rd l (b : Int)) (rd l (i : Int)) = rd l (b : Int) by unfold mx; omega]
      exact ih (i + 1) b (by omega)
theorem ev_Max (l : List Int) (h1 : 1 ≤ l.length) (hl : l.length ≤ 1000) : Ev (fun k => slices_Max_int64_int64.f k l) (rd l (Tr.amax l : Int)) := by
  unfold slices_Max_int64_int64.f
  exact evneg (by omega) (evpos (by omega) (ev_Max_l0 l hl (l.length - 1) 1 0 (by omega)))
def putAt (t : Tr.F) (p : Nat) (i : Int) : Int := if i < ((t.sub p).len : Int) then rd ((t.sub p).roots (p + 1)) i else ((p + 1 + (t.sub p).size : Nat) : Int)
theorem putAt_range {d : List Int} {t : Tr.F} (h : Tr.Tree d t) {p : Nat} (hp : p < t.size) {i : Int} (h0 : 0 ≤ i) : ∃ a : Nat, putAt t p i = (a : Int) ∧ p + 1 ≤ a ∧ a ≤ t.size := by
  have hf := h.fits hp
  unfold putAt
  by_cases hi : i < ((t.sub p).len : Int)
  · rw [if_pos hi]
    have hl := Tr.F.roots_len (t.sub p) (p + 1)
    have hm := Tr.rd_mem (l := (t.sub p).roots (p + 1)) h0 (by omega)
    have hr := Tr.F.roots_range _ _ _ hm
    obtain ⟨a, ha⟩ := Int.eq_ofNat_of_zero_le (show 0 ≤ rd ((t.sub p).roots (p + 1)) i by omega)
    exact ⟨a, ha, by omega, by omega⟩
  · rw [if_neg hi]
    exact ⟨_, rfl, by omega, by omega⟩
def putInL (d : List Int) (p a : Nat) (k : Int) : List Int := (d.set p (rd d (p : Int) + 1 - k)).take a ++ [k] ++ (d.set p (rd d (p : Int) + 1 - k)).drop a
theorem putInL_eq {d : List Int} {p a : Nat} (k : Int) (hp : p < a) (ha : a ≤ d.length) : (d.take a ++ [k] ++ d.drop a).set p (rd d (p : Int) + 1 - k) = putInL d p a k := by
  unfold putInL
  rw [List.take_set, List.drop_set_of_lt (by omega), List.append_assoc, List.set_append_left _ _ (by simp; omega), List.append_assoc]
theorem putInL_len {d : List Int} {p a : Nat} {k : Int} (ha : a ≤ d.length) : (putInL d p a k).length = d.length + 1 := by
  unfold putInL; simp; omega
theorem td_mn (a b : Int) : mn a b = min a b := by unfold mn; split <;> omega
theorem td_mx (a b : Int) : mx a b = max a b := by unfold mx; split <;> omega
theorem td_lo {P : List Td.Pt} {lo hi : List Int} {M : Int} (h : Td.LH (Td.On P) lo hi) (hb : Td.Bd M (P.map Prod.snd)) {i : Nat} (hi_ : i < lo.length) : (-M ≤ rd lo (i : Int) ∧ rd lo (i : Int) ≤ M) ∧ (-M ≤ rd hi (i : Int) ∧ rd hi (i : Int) ≤ M) :=
  ⟨hb _ (List.mem_map.mpr ⟨_, h.lo1 i hi_, rfl⟩), hb _ (List.mem_map.mpr ⟨_, h.hi1 i hi_, rfl⟩)⟩
theorem ev_draw_l1 {d R K oc cols lo hi ol oh : List Int} {N I : Int} {r : List Int × List Int × List Int} (L : Nat) (h1 : L ≤ hi.length) (h2 : L ≤ ol.length) (hL : L ≤ 1000) (hb : ∀ i : Nat, i < L → (-100000000000000000 ≤ rd hi (i : Int) ∧ rd hi (i : Int) ≤ 100000000000000000) ∧ (-100000000000000000 ≤ rd ol (i : Int) ∧ rd ol (i : Int) ≤ 100000000000000000))
    (hfin : Ev (fun k => impl_draw.l2 k d R ((Td.nei hi ol L 0 none).getD 0) K N I (oc.length : Int) 0 cols lo hi oc ol oh) r) : ∀ (m i : Nat) (o : Option Int), i + m = L → Td.nei hi ol m i o = Td.nei hi ol L 0 none →
    Ev (fun k => impl_draw.l1 k d R (o.getD 0) o.isNone K N I (L : Int) (i : Int) cols lo hi oc ol oh) r := by
  intro m
  induction m with
  | zero =>
    intro i o hi_ ho
    refine Ev_succ ?_
    simp only [impl_draw.l1]
    refine evneg (by omega) ?_
    rw [← ho] at hfin
    exact hfin
  | succ m ih =>
    intro i o hi_ ho
    rw [Td.nei] at ho
    have hbi := hb i (by omega)
    have e1 : wrap64 (wrap64 (rd hi (i : Int) + 2) - rd ol (i : Int)) = rd hi (i : Int) + 2 - rd ol (i : Int) := by rw [Tr.wrap_id (x := rd hi (i : Int) + 2) (by omega) (by omega), Tr.wrap_id (by omega) (by omega)]
    have hn := ih (i + 1) (Td.stp o (rd hi (i : Int) + 2 - rd ol (i : Int))) (by omega) ho
    refine Ev_succ ?_
    simp only [impl_draw.l1, e1]
    clear e1
    generalize rd hi (i : Int) + 2 - rd ol (i : Int) = x at hn ⊢
    clear ho hb hbi
    refine evpos (by omega) (evpos (by omega) (evpos (by omega) (evpos (by omega) ?_)))
    cases o with
    | none =>
      refine evpos rfl (Ev_succ ?_)
      simp only [impl_draw.j2]
      refine evpos trivial ?_
      rw [Tr.wrap_succ (by omega)]
      exact hn
    | some y =>
      refine evneg (by simp) (Ev_succ ?_)
      simp only [impl_draw.j2]
      unfold Td.stp at hn
      by_cases hx : x > y
      · simp only [hx, if_true] at hn
        refine evpos (by simpa using hx) ?_
        rw [Tr.wrap_succ (by omega)]
        exact hn
      · simp only [hx, if_false] at hn
        refine evneg (by simpa using hx) ?_
        rw [Tr.wrap_succ (by omega)]
        exact hn
theorem ev_draw_l2 {d R K cols lo hi ol oh : List Int} {N I b : Int} {r : List Int × List Int × List Int} : ∀ (suf pre : List Int), (pre ++ suf).length ≤ 1000 → (∀ x ∈ suf, -1000000000000000000 ≤ x + b ∧ x + b ≤ 1000000000000000000) →
    Ev (fun k => impl_draw.l3 k d R b K N I (ol.length : Int) 0 cols lo hi (pre ++ suf.map (· + b)) ol oh) r → Ev (fun k => impl_draw.l2 k d R b K N I ((pre ++ suf).length : Int) (pre.length : Int) cols lo hi (pre ++ suf) ol oh) r := by
  intro suf
  induction suf with
  | nil =>
    intro pre hl hb hr
    refine Ev_succ ?_
    simp only [impl_draw.l2]
    exact evneg (by simp) (by simpa using hr)
  | cons x suf ih =>
    intro pre hl hb hr
    have hl2 := hl
    rw [List.length_append, List.length_cons] at hl
    have hbx := hb x (by simp)
    have e : rd (pre ++ x :: suf) (pre.length : Int) = x := by rw [Tr.rd_app0]; exact Tr.rd_cons0 _ _
    have e2 : (pre ++ x :: suf).set ((pre.length : Int)).toNat (x + b) = (pre ++ [x + b]) ++ suf := by simp
    have e3 : wrap64 (x + b) = x + b := Tr.wrap_id (by omega) (by omega)
    have h := ih (pre ++ [x + b]) (by simp only [List.length_append, List.length_cons, List.length_nil]; omega) (fun y hy => hb y (List.mem_cons_of_mem _ hy)) (by simpa using hr)
    refine Ev_succ ?_
    simp only [impl_draw.l2]
    refine evpos (by rw [List.length_append, List.length_cons]; omega) (evpos (by omega) (evpos (by rw [List.length_append, List.length_cons]; omega) ?_))
    rw [e, e3, e2, Tr.wrap_succ (by omega)]
    simp only [List.length_append, List.length_cons, List.length_nil, Nat.zero_add] at h ⊢
    rw [show pre.length + 1 + suf.length = pre.length + (suf.length + 1) by omega] at h
    exact h
theorem td_setrd {l : List Int} {i j : Nat} {x : Int} (hj : j < l.length) : rd (l.set i x) (j : Int) = if i = j then x else rd l (j : Int) := by
  rw [Tr.rd_getElem (by rw [List.length_set]; exact hj), Tr.rd_getElem hj, List.getElem_set]
theorem ev_draw_l3 {d R K cols oc ol oh : List Int} {N I b M : Int} {P Q : List Td.Pt} {X : (List Int × List Int × List Int) → Prop} (hq : Td.LH (Td.On Q) ol oh) (hM : 0 ≤ M ∧ M ≤ 100000000000000000) (hQ : Td.Bd M (Q.map Prod.snd)) (hb : -M ≤ b ∧ b ≤ M) (hol : ol.length ≤ 1000)
    (hfin : ∀ lo hi, Td.LH (Td.On (P ++ Td.shf b Q)) lo hi → ∃ r, X r ∧ Ev (fun k => (if 0 < (oc.length : Int) then (if R.length < 17592186044416 then (if cols.length + oc.length < 17592186044416 then (impl_draw.l0 k d (R ++ [rd oc 0]) K N (wrap64 (I + 1)) (cols ++ oc) lo hi) else (none)) else (none)) else (none))) r) : ∀ (m i : Nat) (lo hi : List Int), i + m = ol.length → i ≤ lo.length → lo.length ≤ 1000 → Td.LH (fun e c => Td.On P e c ∨ (e < (i : Int) ∧ Td.On (Td.shf b Q) e c)) lo hi →
    ∃ r, X r ∧ Ev (fun k => impl_draw.l3 k d R b K N I (ol.length : Int) (i : Int) cols lo hi oc ol oh) r := by
  have hon : ∀ e c, Td.On (Td.shf b Q) e c ↔ Td.On Q e (c - b) := fun e c => by
    unfold Td.On Td.shf
    rw [List.mem_map]
    constructor
    · rintro ⟨q, h1, h2⟩
      simp only [Prod.mk.injEq] at h2
      rw [← h2.1, ← h2.2, show q.2 + b - b = q.2 by omega]; exact h1
    · intro h1; exact ⟨(e, c - b), h1, by simp⟩
  intro m
  induction m with
  | zero =>
    intro i lo hi hi_ hil hll h
    obtain ⟨r, h1, h2⟩ := hfin lo hi (h.congr (fun e c => by
      unfold Td.On
      rw [List.mem_append]
      constructor
      · rintro (h3 | ⟨_, h3⟩)
        · exact .inl h3
        · exact .inr h3
      · rintro (h3 | h3)
        · exact .inl h3
        · refine .inr ⟨?_, h3⟩
          have := hq.dep e (c - b) ((hon e c).mp h3)
          omega))
    refine ⟨r, h1, Ev_succ ?_⟩
    simp only [impl_draw.l3]
    exact evneg (by omega) h2
  | succ m ih =>
    intro i lo hi hi_ hil hll h
    have hio : i < ol.length := by omega
    have hoh := hq.len
    have hhl := h.len
    obtain ⟨b1, b2⟩ := td_lo hq hQ hio
    have ex : wrap64 (rd ol (i : Int) + b) = rd ol (i : Int) + b := Tr.wrap_id (by omega) (by omega)
    have ey : wrap64 (rd oh (i : Int) + b) = rd oh (i : Int) + b := Tr.wrap_id (by omega) (by omega)
    have hlast : ∀ lo1 hi1 : List Int, lo1.length = max lo.length (i + 1) → hi1.length = max lo.length (i + 1) → (∀ j : Nat, j < lo.length → rd lo1 (j : Int) = rd lo (j : Int) ∧ rd hi1 (j : Int) = rd hi (j : Int)) → (i = lo.length → rd lo1 (i : Int) = rd ol (i : Int) + b ∧ rd hi1 (i : Int) = rd oh (i : Int) + b) →
        ∃ r, X r ∧ Ev (fun k => impl_draw.j5 k d R b (i : Int) K N I (ol.length : Int) (i : Int) cols lo1 hi1 oc ol oh) r := by
      intro lo1 hi1 l1 l2 hj hn
      have hst := Td.LH.step (T := Td.On (Td.shf b Q)) (lo' := lo1.set i (min (rd lo1 (i : Int)) (rd ol (i : Int) + b))) (hi' := hi1.set i (max (rd hi1 (i : Int)) (rd oh (i : Int) + b))) (i := i) (x := rd ol (i : Int) + b) (y := rd oh (i : Int) + b) h hil
        ((hon _ _).mpr (by rw [show rd ol (i : Int) + b - b = rd ol (i : Int) by omega]; exact hq.lo1 i hio)) (fun c hc => by have := hq.lo2 i hio _ ((hon _ _).mp hc); omega)
        ((hon _ _).mpr (by rw [show rd oh (i : Int) + b - b = rd oh (i : Int) by omega]; exact hq.hi1 i hio)) (fun c hc => by have := hq.hi2 i hio _ ((hon _ _).mp hc); omega)
        (by rw [List.length_set]; exact l1) (by rw [List.length_set]; exact l2)
        (fun j h1 h2 => by rw [td_setrd (by omega), td_setrd (by omega), if_neg (fun e => h2 e.symm), if_neg (fun e => h2 e.symm)]; exact hj j h1)
        (fun h1 => by rw [td_setrd (by omega), td_setrd (by omega), if_pos rfl, if_pos rfl, (hj i h1).1, (hj i h1).2]; exact ⟨rfl, rfl⟩)
        (fun h1 => by rw [td_setrd (by omega), td_setrd (by omega), if_pos rfl, if_pos rfl, (hn h1).1, (hn h1).2]; omega)
      obtain ⟨r, h3, h4⟩ := ih (i + 1) _ _ (by omega) (by rw [List.length_set]; omega) (by rw [List.length_set]; omega) (hst.congr (fun e c => by
        constructor
        · rintro ((h5 | ⟨h5, h6⟩) | ⟨h5, h6⟩)
          · exact .inl h5
          · exact .inr ⟨by omega, h6⟩
          · exact .inr ⟨by omega, h6⟩
        · rintro (h5 | ⟨h5, h6⟩)
          · exact .inl (.inl h5)
          · by_cases e2 : e = (i : Int)
            · exact .inr ⟨e2, h6⟩
            · exact .inl (.inr ⟨by omega, h6⟩)))
      refine ⟨r, h3, Ev_succ ?_⟩
      simp only [impl_draw.j5, ex, ey]
      clear ex ey
      refine evpos (by omega) (evpos (by omega) (evpos (by omega) (evpos (by omega) (evpos (by omega) ?_))))
      rw [td_mn, td_mx, Tr.wrap_succ (by omega), Int.toNat_natCast]
      exact h4
    by_cases hc : i = lo.length
    · obtain ⟨r, h3, h4⟩ := hlast (lo ++ [rd ol (i : Int) + b]) (hi ++ [rd oh (i : Int) + b]) (by simp; omega) (by simp; omega) (fun j hj => ⟨Tr.rd_left _ _ _ (by omega) (by omega), Tr.rd_left _ _ _ (by omega) (by omega)⟩) (fun _ => by
        rw [hc, Tr.rd_app0, Tr.rd_cons0]
        refine ⟨rfl, ?_⟩
        rw [hhl, Tr.rd_app0, Tr.rd_cons0])
      refine ⟨r, h3, Ev_succ ?_⟩
      simp only [impl_draw.l3, ex, ey]
      clear ex ey
      exact evpos (by omega) (evpos (by omega) (evpos (by omega) (evpos (by omega) (evpos (by omega) (evpos (by omega) (evpos (by omega) h4))))))
    · obtain ⟨r, h3, h4⟩ := hlast lo hi (by omega) (by omega) (fun j hj => ⟨rfl, rfl⟩) (fun e => absurd e hc)
      refine ⟨r, h3, Ev_succ ?_⟩
      simp only [impl_draw.l3]
      clear ex ey
      exact evpos (by omega) (evneg (by omega) h4)
theorem td_concat (x : Int) (l : List Int) (h : l.length ≤ 1000) : slices_Concat.f [[x], l] = some (x :: l) := by
  unfold slices_Concat.f
  rw [if_pos ⟨by simp, by simp; omega⟩]
  simp
theorem ev_draw_l0 {d : List Int} (hd : d.length ≤ 1000) : ∀ (g : Tr.F) (p i : Nat) (K : List Int) (s : List Td.Pt × List Int) (lo hi : List Int), Tr.Pl d p g → K.drop i = g.roots p → i + g.len = K.length → Td.Ok s → s.1.length + g.size ≤ 24 → K.length ≤ 24 → s.2.length = i → (∀ q ∈ s.1, q.1 ≤ 24) → Td.LH (Td.On s.1) lo hi →
    ∃ r : List Int × List Int × List Int, (∃ lo' hi', Td.LH (Td.On (Td.pl g s).1) lo' hi' ∧ r = (Td.rt (Td.pl g s).2 :: (Td.pl g s).1.map Prod.snd, Td.rt (Td.pl g s).2 :: lo', Td.rt (Td.pl g s).2 :: hi')) ∧ Ev (fun k => impl_draw.l0 k d s.2 K (K.length : Int) (i : Int) (s.1.map Prod.snd) lo hi) r := by
  intro g
  induction g with
  | nil =>
    intro p i K s lo hi hp hK hi_ hs hsz hKl hR hdp h
    simp only [Tr.F.len] at hi_
    have hfew := h.few (M := 24) hdp
    have hl := h.len
    have hpw := Td.pow_small (n := s.1.length) (by omega)
    have hpg := Td.pow_ge s.1.length
    simp only [Tr.F.size] at hsz
    refine ⟨_, ⟨lo, hi, h, rfl⟩, Ev_succ ?_⟩
    simp only [impl_draw.l0, Td.pl]
    refine evneg (by omega) ?_
    have hj : ∀ x : Int, Ev (fun k => impl_draw.j6 k x (s.1.map Prod.snd) lo hi) (x :: s.1.map Prod.snd, x :: lo, x :: hi) := fun x => by
      refine Ev_succ ?_
      simp only [impl_draw.j6]
      rw [Option.bind_some, td_concat _ _ (by rw [List.length_map]; omega), td_concat _ _ (by omega), td_concat _ _ (by omega)]
      exact Ev.now _
    by_cases h0 : s.2 = []
    · rw [h0]
      refine evneg (by simp) ?_
      have : Td.rt [] = 0 := rfl
      rw [this]
      exact hj 0
    · have hlen : 1 ≤ s.2.length := by
        cases hc : s.2 with
        | nil => exact absurd hc h0
        | cons a l => simp
      have ew : wrap64 ((s.2.length : Int) - 1) = (s.2.length : Int) - 1 := Tr.wrap_id (by omega) (by omega)
      have b1 := Td.rd_in hs.2.1 (by omega) 0
      have b2 := Td.rd_in hs.2.1 (by omega) ((s.2.length : Int) - 1)
      have ew2 : wrap64 (rd s.2 0 + rd s.2 ((s.2.length : Int) - 1)) = rd s.2 0 + rd s.2 ((s.2.length : Int) - 1) := Tr.wrap_id (by omega) (by omega)
      rw [ew, ew2]
      clear ew ew2
      have hrt : Td.rt s.2 = (rd s.2 0 + rd s.2 ((s.2.length : Int) - 1)) / 2 := by unfold Td.rt; rw [if_neg h0]
      rw [hrt]
      clear b1 b2 hrt
      exact evpos (by omega) (evpos (by omega) (evpos (by omega) (evpos (by omega) (hj _))))
  | cons b n ihb ihn =>
    intro p i K s lo hi hp hK hi_ hs hsz hKl hR hdp h
    simp only [Tr.F.len] at hi_
    simp only [Tr.F.size] at hsz
    have hi2 : i < K.length := by omega
    have hKi : K[i] = (p : Int) ∧ K.drop (i + 1) = n.roots (p + 1 + b.size) := by
      rw [List.drop_eq_getElem_cons hi2] at hK
      exact ⟨(List.cons.inj hK).1, (List.cons.inj hK).2⟩
    have hbl := Tr.F.len_le b
    obtain ⟨rb, ⟨ol0, oh0, hLb, rfl⟩, hEb⟩ := ihb (p + 1) 0 (b.roots (p + 1)) ([], []) [] [] hp.below rfl (by rw [Tr.F.roots_len]; omega) Td.ok_nil (by simp; omega) (by rw [Tr.F.roots_len]; omega) rfl (fun q hq => by simp at hq) Td.LH.nil
    have hf : Ev (fun k => impl_draw.f k d (p : Int)) (Td.rt (Td.pl b ([], [])).2 :: (Td.pl b ([], [])).1.map Prod.snd, Td.rt (Td.pl b ([], [])).2 :: ol0, Td.rt (Td.pl b ([], [])).2 :: oh0) := by
      refine Ev_succ ?_
      simp only [impl_draw.f]
      exact Ev.bind (ev_kidsOf hd hp) hEb
    have hq := Td.LH.tre hLb
    have hcols : (Td.tre (Td.pl b ([], []))).map Prod.snd = Td.rt (Td.pl b ([], [])).2 :: (Td.pl b ([], [])).1.map Prod.snd := by simp [Td.tre, Function.comp_def]
    have hokb := Td.ok_pl b _ Td.ok_nil
    have hokn := Td.ok_add hs hokb
    have hblen := Td.pl_len b ([], [])
    simp only [List.length_nil, Nat.zero_add] at hblen
    have htl : (Td.tre (Td.pl b ([], []))).length = b.size + 1 := by simp [Td.tre, hblen]
    have hpA := Td.pow_small (n := s.1.length) (by omega)
    have hpB := Td.pow_small (n := (Td.pl b ([], [])).1.length) (by omega)
    have hQb := Td.tre_in hokb
    have hmv := Td.mv_in hs.1 hQb (by have := Td.pow_ge s.1.length; omega) (by have := Td.pow_ge (Td.pl b ([], [])).1.length; omega)
    have hQb' := hQb.mono (M' := 1000000000000000) (by omega)
    have hP' := hs.1.mono (M' := 1000000000000000) (by omega)
    have hmv' : -1000000000000000 ≤ Td.mv s.1 (Td.tre (Td.pl b ([], []))) ∧ Td.mv s.1 (Td.tre (Td.pl b ([], []))) ≤ 1000000000000000 := by omega
    clear hmv hpA hpB hQb
    have hdq : ∀ q ∈ Td.tre (Td.pl b ([], [])), q.1 ≤ ((24 : Nat) : Int) := fun q hq_ => by have := Td.tre_dep hq_; omega
    have hfewo := hq.few hdq
    have hfewl := h.few (M := 24) hdp
    have hln := h.len
    have hby := Td.nei_ned h hq
    simp only [Td.pl]
    generalize hQe : Td.tre (Td.pl b ([], [])) = Q at *
    generalize hre : Td.rt (Td.pl b ([], [])).2 = ρ at *
    generalize hol : ρ :: ol0 = ol at *
    generalize hoh : ρ :: oh0 = oh at *
    have hl3 := ev_draw_l3 (d := d) (R := s.2) (K := K) (cols := s.1.map Prod.snd) (oc := (Q.map Prod.snd).map (· + Td.mv s.1 Q)) (N := (K.length : Int)) (I := (i : Int)) (b := Td.mv s.1 Q) (P := s.1) (M := 1000000000000000) (X := fun r => ∃ lo' hi', Td.LH (Td.On (Td.pl n (s.1 ++ Td.shf (Td.mv s.1 Q) Q, s.2 ++ [ρ + Td.mv s.1 Q])).1) lo' hi' ∧ r = (Td.rt (Td.pl n (s.1 ++ Td.shf (Td.mv s.1 Q) Q, s.2 ++ [ρ + Td.mv s.1 Q])).2 :: (Td.pl n (s.1 ++ Td.shf (Td.mv s.1 Q) Q, s.2 ++ [ρ + Td.mv s.1 Q])).1.map Prod.snd, Td.rt (Td.pl n (s.1 ++ Td.shf (Td.mv s.1 Q) Q, s.2 ++ [ρ + Td.mv s.1 Q])).2 :: lo', Td.rt (Td.pl n (s.1 ++ Td.shf (Td.mv s.1 Q) Q, s.2 ++ [ρ + Td.mv s.1 Q])).2 :: hi'))
      hq (by omega) hQb' hmv' (by omega) (fun lo1 hi1 hLH => by
        obtain ⟨r, hX, hE⟩ := ihn (p + 1 + b.size) (i + 1) K (s.1 ++ Td.shf (Td.mv s.1 Q) Q, s.2 ++ [ρ + Td.mv s.1 Q]) lo1 hi1 hp.next hKi.2 (by omega) hokn (by simp only [List.length_append, Td.shf, List.length_map, htl]; omega) hKl (by simp [hR]) (fun q hq_ => by
          rcases List.mem_append.mp hq_ with h1 | h1
          · exact hdp q h1
          · obtain ⟨q', h2, h3⟩ := Td.shf_mem h1
            rw [h3]; exact hdq q' h2) hLH
        refine ⟨r, hX, ?_⟩
        have hrd : rd ((Q.map Prod.snd).map (· + Td.mv s.1 Q)) 0 = ρ + Td.mv s.1 Q := by rw [hcols, List.map_cons, Tr.rd_cons0]
        rw [hrd, Tr.wrap_succ (by omega)]
        simp only [List.map_append, Td.shf_snd] at hE
        refine evpos (by rw [hcols, List.map_cons, List.length_cons]; omega) (evpos (by omega) (evpos (by simp only [List.length_map]; omega) hE)))
      ol.length 0 lo hi (by omega) (by omega) (by omega) (h.congr (fun e c => ⟨fun h1 => .inl h1, fun h1 => h1.elim id (fun h2 => by
        have h3 := h2.1
        obtain ⟨q', h4, h5⟩ := Td.shf_mem h2.2
        have := hq.dep q'.1 q'.2 h4
        simp only at h5
        omega)⟩))
    obtain ⟨r, hX, hE3⟩ := hl3
    refine ⟨r, hX, Ev_succ ?_⟩
    have hE2 := ev_draw_l2 (d := d) (R := s.2) (K := K) (cols := s.1.map Prod.snd) (lo := lo) (hi := hi) (ol := ol) (oh := oh) (N := (K.length : Int)) (I := (i : Int)) (b := Td.mv s.1 Q) (r := r) (Q.map Prod.snd) [] (by simp only [List.nil_append, List.length_map]; omega) (fun x hx => by have := hQb' x hx; omega) (by simpa using hE3)
    simp only [List.nil_append, List.length_nil] at hE2
    have hE1 := ev_draw_l1 (d := d) (R := s.2) (K := K) (oc := Q.map Prod.snd) (cols := s.1.map Prod.snd) (lo := lo) (hi := hi) (ol := ol) (oh := oh) (N := (K.length : Int)) (I := (i : Int)) (r := r) (min hi.length ol.length) (by omega) (by omega) (by omega) (fun j hj => by
      have h1 := (td_lo h hP' (i := j) (by omega)).2
      have h2 := (td_lo hq hQb' (i := j) (by omega)).1
      omega) (by rw [hby]; exact hE2) (min hi.length ol.length) 0 none (by omega) rfl
    simp only [impl_draw.l0]
    refine evpos (by omega) (evpos (by omega) (evpos (by omega) ?_))
    rw [Tr.rd_getElem hi2, hKi.1]
    refine Ev.bind hf ?_
    dsimp only
    rw [← hcols, show mn (hi.length : Int) (ol.length : Int) = ((min hi.length ol.length : Nat) : Int) by rw [td_mn]; omega]
    exact hE1
theorem ev_draw {d : List Int} {b : Tr.F} (hd : d.length ≤ 24) (hp : Tr.Pl d 0 (.cons b .nil)) : ∃ lo hi : List Int, Ev (fun k => impl_draw.f k d 0) ((Td.tre (Td.pl b ([], []))).map Prod.snd, lo, hi) := by
  have hle := hp.le
  simp only [Tr.F.size] at hle
  have hbl := Tr.F.len_le b
  obtain ⟨rb, ⟨ol0, oh0, hLb, rfl⟩, hEb⟩ := ev_draw_l0 (d := d) (by omega) b 1 0 (b.roots 1) ([], []) [] [] hp.below rfl (by rw [Tr.F.roots_len]; omega) Td.ok_nil (by simp; omega) (by rw [Tr.F.roots_len]; omega) rfl (fun q hq => by simp at hq) Td.LH.nil
  have hcols : (Td.tre (Td.pl b ([], []))).map Prod.snd = Td.rt (Td.pl b ([], [])).2 :: (Td.pl b ([], [])).1.map Prod.snd := by simp [Td.tre, Function.comp_def]
  refine ⟨Td.rt (Td.pl b ([], [])).2 :: ol0, Td.rt (Td.pl b ([], [])).2 :: oh0, Ev_succ ?_⟩
  simp only [impl_draw.f]
  rw [hcols]
  exact Ev.bind (ev_kidsOf (by omega) hp) hEb
section
variable {D d x7 K : List Int} {v i : Int}
theorem ev_l08Tidy_l2 {Q : List Td.Pt} {p : Td.Pt} {w c : Nat} {κ : Int} {r : List Int} (a : Nat) (hw : v = (w : Int)) (hwb : w ≤ 1000) (hc : rd K i = (c : Int)) (hcb : c ≤ 1000) (hi0 : 0 ≤ i) (hi1 : i < (K.length : Int)) (ha : a ≤ 1000) (ha1 : a < x7.length) (hx7 : rd x7 (a : Int) = p.2)
    (hDa : w + a < D.length ∧ rd D ((w + a : Nat) : Int) = κ + p.1) (hDb : ∀ b : Nat, b < Q.length → c + b < D.length ∧ rd D ((c + b : Nat) : Int) = κ + rd (Q.map Prod.fst) (b : Int)) (hb : (-100000000000000000 ≤ p.2 ∧ p.2 ≤ 100000000000000000) ∧ Td.Bd 100000000000000000 (Q.map Prod.snd)) (hQ : Q.length ≤ 1000) : ∀ (S Pre : List Td.Pt) (o : Option Int), Q = Pre ++ S →
    Ev (fun k => spec_l08Tidy.l1 k D v x7 K i (Q.map Prod.snd) ((Td.ned1 p S o).getD 0) (Td.ned1 p S o).isNone ((a + 1 : Nat) : Int) d) r → Ev (fun k => spec_l08Tidy.l2 k D v x7 K i (Q.map Prod.snd) (o.getD 0) o.isNone (a : Int) (Pre.length : Int) d) r := by
  intro S
  induction S with
  | nil =>
    intro Pre o hS hr
    rw [List.append_nil] at hS
    subst hS
    refine Ev_succ ?_
    simp only [spec_l08Tidy.l2]
    refine evneg (by rw [List.length_map]; omega) ?_
    rw [Tr.wrap_succ (by omega)]
    exact hr
  | cons q S ih =>
    intro Pre o hS hr
    have hlen : Q.length = Pre.length + (S.length + 1) := by rw [hS]; simp
    obtain ⟨h1, h2⟩ := hDb Pre.length (by omega)
    have hqf : rd (Q.map Prod.fst) (Pre.length : Int) = q.1 := by
      rw [hS, List.map_append, List.map_cons, show (Pre.length : Int) = ((Pre.map Prod.fst).length : Int) by rw [List.length_map], Tr.rd_app0, Tr.rd_cons0]
    have hqs : rd (Q.map Prod.snd) (Pre.length : Int) = q.2 := by
      rw [hS, List.map_append, List.map_cons, show (Pre.length : Int) = ((Pre.map Prod.snd).length : Int) by rw [List.length_map], Tr.rd_app0, Tr.rd_cons0]
    have hqb := hb.2 q.2 (List.mem_map.mpr ⟨q, by rw [hS]; simp, rfl⟩)
    have hpb := hb.1
    rw [hqf] at h2
    have e1 : wrap64 (v + (a : Int)) = ((w + a : Nat) : Int) := by rw [Tr.wrap_id (by omega) (by omega)]; omega
    have e2 : wrap64 (rd K i + (Pre.length : Int)) = ((c + Pre.length : Nat) : Int) := by rw [hc, Tr.wrap_id (by omega) (by omega)]; omega
    have e3 : wrap64 (wrap64 (p.2 + 2) - q.2) = p.2 + 2 - q.2 := by rw [Tr.wrap_id (x := p.2 + 2) (by omega) (by omega), Tr.wrap_id (by omega) (by omega)]
    have e4 : wrap64 ((Pre.length : Int) + 1) = ((Pre ++ [q]).length : Int) := by rw [Tr.wrap_id (by omega) (by omega)]; simp
    have hn := fun o' h => ih (Pre ++ [q]) o' (by rw [hS]; simp) h
    rw [Td.ned1] at hr
    refine Ev_succ ?_
    simp only [spec_l08Tidy.l2, e1, e2, hx7, hqs, e3, e4]
    rw [hDa.2, h2]
    clear e1 e2 e3 e4
    refine evpos (by rw [List.length_map]; omega) (evpos (by omega) (evpos (by omega) (evpos hi0 (evpos hi1 (evpos (by omega) (evpos (by omega) ?_))))))
    by_cases hpq : p.1 = q.1
    · rw [if_pos hpq] at hr
      refine evpos (by omega) (evpos (by omega) (evpos (by omega) (evpos (by omega) ?_)))
      generalize p.2 + 2 - q.2 = x at hr ⊢
      cases o with
      | none => exact evpos rfl (hn (some x) hr)
      | some y =>
        refine evneg (by simp) ?_
        unfold Td.stp at hr
        by_cases hx : x > y
        · simp only [hx, if_true] at hr
          exact evpos hx (hn (some x) hr)
        · simp only [hx, if_false] at hr
          exact evneg hx (hn (some y) hr)
    · rw [if_neg hpq] at hr
      exact evneg (by omega) (hn o hr)
theorem ev_l08Tidy_l1 {P Q : List Td.Pt} {w c : Nat} {κ : Int} {r : List Int} (hw : v = (w : Int)) (hwb : w ≤ 1000) (hc : rd K i = (c : Int)) (hcb : c ≤ 1000) (hi0 : 0 ≤ i) (hi1 : i < (K.length : Int)) (hx7 : x7 = 0 :: P.map Prod.snd) (hPl : P.length ≤ 900)
    (hDa : ∀ a : Nat, a < P.length → w + 1 + a < D.length ∧ rd D ((w + 1 + a : Nat) : Int) = κ + rd (P.map Prod.fst) (a : Int)) (hDb : ∀ b : Nat, b < Q.length → c + b < D.length ∧ rd D ((c + b : Nat) : Int) = κ + rd (Q.map Prod.fst) (b : Int)) (hP : Td.Bd 100000000000000000 (P.map Prod.snd)) (hQb : Td.Bd 100000000000000000 (Q.map Prod.snd)) (hQ : Q.length ≤ 1000) : ∀ (S Pre : List Td.Pt) (o : Option Int), P = Pre ++ S →
    Ev (fun k => spec_l08Tidy.l3 k D v x7 K i (Q.map Prod.snd) ((Td.ned Q S o).getD 0) 0 d) r → Ev (fun k => spec_l08Tidy.l1 k D v x7 K i (Q.map Prod.snd) (o.getD 0) o.isNone ((Pre.length + 1 : Nat) : Int) d) r := by
  have hxl : x7.length = P.length + 1 := by rw [hx7]; simp
  intro S
  induction S with
  | nil =>
    intro Pre o hS hr
    rw [List.append_nil] at hS
    subst hS
    refine Ev_succ ?_
    simp only [spec_l08Tidy.l1]
    exact evneg (by omega) hr
  | cons p S ih =>
    intro Pre o hS hr
    have hlen : P.length = Pre.length + (S.length + 1) := by rw [hS]; simp
    obtain ⟨h1, h2⟩ := hDa Pre.length (by omega)
    have hpf : rd (P.map Prod.fst) (Pre.length : Int) = p.1 := by
      rw [hS, List.map_append, List.map_cons, show (Pre.length : Int) = ((Pre.map Prod.fst).length : Int) by rw [List.length_map], Tr.rd_app0, Tr.rd_cons0]
    have hps : rd x7 ((Pre.length + 1 : Nat) : Int) = p.2 := by
      rw [hx7, hS, List.map_append, List.map_cons, show (0 : Int) :: (Pre.map Prod.snd ++ p.2 :: S.map Prod.snd) = (0 :: Pre.map Prod.snd) ++ p.2 :: S.map Prod.snd from rfl, show ((Pre.length + 1 : Nat) : Int) = (((0 : Int) :: Pre.map Prod.snd).length : Int) by simp, Tr.rd_app0, Tr.rd_cons0]
    rw [hpf] at h2
    rw [Td.ned] at hr
    have hn := ih (Pre ++ [p]) (Td.ned1 p Q o) (by rw [hS]; simp) hr
    simp only [List.length_append, List.length_singleton] at hn
    refine Ev_succ ?_
    simp only [spec_l08Tidy.l1]
    refine evpos (by omega) ?_
    exact ev_l08Tidy_l2 (Q := Q) (p := p) (Pre.length + 1) hw hwb hc hcb hi0 hi1 (by omega) (by omega) hps ⟨by omega, by rw [show w + (Pre.length + 1) = w + 1 + Pre.length by omega]; exact h2⟩ hDb ⟨hP p.2 (List.mem_map.mpr ⟨p, by rw [hS]; simp, rfl⟩), hQb⟩ hQ Q [] o rfl hn
theorem ev_l08Tidy_l3 {b : Int} {r : List Int} : ∀ (S Pre acc : List Int), (Pre ++ S).length ≤ 1000 → acc.length + S.length ≤ 1000000 → (∀ x ∈ S, -1000000000000000000 ≤ x + b ∧ x + b ≤ 1000000000000000000) →
    Ev (fun k => spec_l08Tidy.l0 k D v (acc ++ S.map (· + b)) K (wrap64 (i + 1)) d) r → Ev (fun k => spec_l08Tidy.l3 k D v acc K i (Pre ++ S) b (Pre.length : Int) d) r := by
  intro S
  induction S with
  | nil =>
    intro Pre acc hl hb hs hr
    refine Ev_succ ?_
    simp only [spec_l08Tidy.l3]
    exact evneg (by simp) (by simpa using hr)
  | cons x S ih =>
    intro Pre acc hl hb hs hr
    have hl2 := hl
    rw [List.length_append, List.length_cons] at hl
    have hbx := hs x (by simp)
    have e : rd (Pre ++ x :: S) (Pre.length : Int) = x := by rw [Tr.rd_app0]; exact Tr.rd_cons0 _ _
    have e3 : wrap64 (x + b) = x + b := Tr.wrap_id (by omega) (by omega)
    have e4 : wrap64 ((Pre.length : Int) + 1) = ((Pre ++ [x]).length : Int) := by rw [Tr.wrap_id (by omega) (by omega)]; simp
    have h := ih (Pre ++ [x]) (acc ++ [x + b]) (by simpa using hl2) (by
      rw [List.length_append, List.length_singleton]
      rw [List.length_cons] at hb; omega) (fun y hy => hs y (List.mem_cons_of_mem _ hy)) (by simpa using hr)
    refine Ev_succ ?_
    simp only [spec_l08Tidy.l3]
    refine evpos (by rw [List.length_append, List.length_cons]; omega) (evpos (by omega) (evpos (by omega) ?_))
    rw [e, e3, e4]
    simpa using h
end
theorem l08Half_all (a : Int) (h0 : -1000000000000000000 ≤ a) (h1 : a ≤ 1000000000000000000) : spec_l08Half.f a = some (a / 2) := by
  unfold spec_l08Half.f
  by_cases h : a < 0
  · rw [if_pos h, Tr.wrap_id (x := 1 - a) (by omega) (by omega), Int.tdiv_eq_ediv_of_nonneg (by omega), Tr.wrap_id (x := (1 - a) / 2) (by omega) (by omega), Tr.wrap_id (by omega) (by omega)]
    congr 1; omega
  · rw [if_neg h, Int.tdiv_eq_ediv_of_nonneg (by omega), Tr.wrap_id (by omega) (by omega)]
theorem td_rdc (x : Int) (l : List Int) (j : Nat) : rd (x :: l) ((j + 1 : Nat) : Int) = rd l (j : Int) := by simp [rd, List.getD_eq_getElem?_getD]
theorem ev_l08Tidy_l0 {d D : List Int} (hd : d.length ≤ 100) : ∀ (g : Tr.F) (p i : Nat) (K : List Int) (s : List Td.Pt × List Int) (w : Nat) (κ : Int), Tr.Pl d p g → K.drop i = g.roots p → i + g.len = K.length → Td.Ok s → s.1.length + g.size ≤ 24 → K.length ≤ 24 → s.2.length = i → p = w + 1 + s.1.length →
    (∀ j : Nat, j < s.1.length + g.size → w + 1 + j < D.length ∧ rd D ((w + 1 + j : Nat) : Int) = κ + rd (s.1.map Prod.fst ++ g.depths 0) (j : Int)) → (∀ j : Nat, j < i → ∃ m : Nat, rd K (j : Int) = ((w + 1 + m : Nat) : Int) ∧ m < s.1.length ∧ rd (s.1.map Prod.snd) (m : Int) = rd s.2 (j : Int)) → (0 < i → rd (s.1.map Prod.snd) 0 = rd s.2 0) → (i = 0 → s.1 = []) →
    Ev (fun k => spec_l08Tidy.l0 k D (w : Int) (0 :: s.1.map Prod.snd) K (i : Int) d) (Td.rt (Td.pl g s).2 :: (Td.pl g s).1.map Prod.snd) := by
  intro g
  induction g with
  | nil =>
    intro p i K s w κ hp hK hi_ hs hsz hKl hR hpw hD hKm hK0 hz
    simp only [Tr.F.len] at hi_
    simp only [Tr.F.size] at hsz
    have hple := hp.le
    have hpw2 := Td.pow_small (n := s.1.length) (by omega)
    have hpg := Td.pow_ge s.1.length
    refine Ev_succ ?_
    simp only [spec_l08Tidy.l0, Td.pl]
    refine evneg (by omega) ?_
    by_cases h0 : i = 0
    · have hs2 : s.2 = [] := List.length_eq_zero_iff.mp (by omega)
      have : Td.rt s.2 = 0 := by rw [hs2]; rfl
      rw [this]
      exact evneg (by omega) (Ev.now _)
    · obtain ⟨m, hm1, hm2, hm3⟩ := hKm (i - 1) (by omega)
      have hk0 := hK0 (by omega)
      have ew : wrap64 ((K.length : Int) - 1) = ((i - 1 : Nat) : Int) := by rw [Tr.wrap_id (by omega) (by omega)]; omega
      have ew2 : wrap64 (((w + 1 + m : Nat) : Int) - (w : Int)) = ((m + 1 : Nat) : Int) := by rw [Tr.wrap_id (by omega) (by omega)]; omega
      have b1 := Td.rd_in hs.2.1 (by omega) 0
      have b2 := Td.rd_in hs.2.1 (by omega) ((i - 1 : Nat) : Int)
      have hrt : Td.rt s.2 = (rd s.2 0 + rd s.2 ((i - 1 : Nat) : Int)) / 2 := by
        unfold Td.rt
        rw [if_neg (fun e => by rw [e] at hR; simp at hR; omega), hR, show ((i : Int) - 1) = ((i - 1 : Nat) : Int) by omega]
      have er1 : rd (0 :: s.1.map Prod.snd) 1 = rd s.2 0 := by
        have := td_rdc 0 (s.1.map Prod.snd) 0
        rw [← hk0]; exact this
      have er2 : rd (0 :: s.1.map Prod.snd) ((m + 1 : Nat) : Int) = rd s.2 ((i - 1 : Nat) : Int) := by rw [td_rdc, hm3]
      have ew3 : wrap64 (rd s.2 0 + rd s.2 ((i - 1 : Nat) : Int)) = rd s.2 0 + rd s.2 ((i - 1 : Nat) : Int) := Tr.wrap_id (by omega) (by omega)
      rw [ew, hm1, ew2, er1, er2, ew3, l08Half_all _ (by omega) (by omega), hrt]
      clear ew ew2 er1 er2 ew3 hrt b1 b2 hD hKm
      have hcl : ((0 : Int) :: s.1.map Prod.snd).length = s.1.length + 1 := by simp
      rw [hcl]
      exact evpos (by omega) (evpos (by omega) (evpos (by omega) (evpos (by omega) (evpos (by omega) (evpos (by omega) (evsome (evpos (by omega) (Ev.now _))))))))
  | cons b n ihb ihn =>
    intro p i K s w κ hp hK hi_ hs hsz hKl hR hpw hD hKm hK0 hz
    simp only [Tr.F.len] at hi_
    simp only [Tr.F.size] at hsz hD
    have hple := hp.le
    simp only [Tr.F.size] at hple
    have hi2 : i < K.length := by omega
    have hKi : K[i] = (p : Int) ∧ K.drop (i + 1) = n.roots (p + 1 + b.size) := by
      rw [List.drop_eq_getElem_cons hi2] at hK
      exact ⟨(List.cons.inj hK).1, (List.cons.inj hK).2⟩
    have hKr : rd K (i : Int) = (p : Int) := by rw [Tr.rd_getElem hi2]; exact hKi.1
    have hbl := Tr.F.len_le b
    have hfl : (s.1.map Prod.fst).length = s.1.length := List.length_map ..
    have hdl : (b.depths 1).length = b.size := Tr.F.depths_len b 1
    have hDsplit : (Tr.F.cons b n).depths 0 = 0 :: (b.depths 1 ++ n.depths 0) := rfl
    rw [hDsplit] at hD
    have hDb : ∀ j : Nat, j < b.size + 1 → p + j < D.length ∧ rd D ((p + j : Nat) : Int) = κ + rd (0 :: b.depths 1) (j : Int) := fun j hj => by
      obtain ⟨h1, h2⟩ := hD (s.1.length + j) (by omega)
      rw [← hfl, Tr.rd_app, hfl, show (0 : Int) :: (b.depths 1 ++ n.depths 0) = (0 :: b.depths 1) ++ n.depths 0 from rfl, Tr.rd_left _ _ _ (by omega) (by simp only [List.length_cons, hdl]; omega)] at h2
      rw [hpw]
      exact ⟨by omega, by rw [show w + 1 + s.1.length + j = w + 1 + (s.1.length + j) by omega]; exact h2⟩
    have hEb := ihb (p + 1) 0 (b.roots (p + 1)) ([], []) p (κ + 1) hp.below rfl (by rw [Tr.F.roots_len]; omega) Td.ok_nil (by simp; omega) (by rw [Tr.F.roots_len]; omega) rfl (by simp) (fun j hj => by
      simp only [List.length_nil, Nat.zero_add] at hj
      obtain ⟨h1, h2⟩ := hDb (j + 1) (by omega)
      rw [td_rdc, show (1 : Int) = 0 + 1 by omega, Td.depths_succ] at h2
      refine ⟨by omega, ?_⟩
      rw [show p + 1 + j = p + (j + 1) by omega, h2]
      simp only [List.map_nil, List.nil_append]
      have hjl : j < (b.depths 0).length := by rw [Tr.F.depths_len]; exact hj
      rw [Tr.rd_getElem (by rw [List.length_map]; exact hjl), Tr.rd_getElem hjl, List.getElem_map]
      omega) (fun j hj => by omega) (fun h => by omega) (fun _ => rfl)
    have hf : Ev (fun k => spec_l08Tidy.f k d D (p : Int)) (Td.rt (Td.pl b ([], [])).2 :: (Td.pl b ([], [])).1.map Prod.snd) := by
      refine Ev_succ ?_
      simp only [spec_l08Tidy.f]
      exact Ev.bind (ev_l01Children (by omega) hp) hEb
    have hcols : (Td.tre (Td.pl b ([], []))).map Prod.snd = Td.rt (Td.pl b ([], [])).2 :: (Td.pl b ([], [])).1.map Prod.snd := by simp [Td.tre, Function.comp_def]
    have hfst := Td.tre_fst b
    have hokb := Td.ok_pl b _ Td.ok_nil
    have hokn := Td.ok_add hs hokb
    have hblen := Td.pl_len b ([], [])
    simp only [List.length_nil, Nat.zero_add] at hblen
    have htl : (Td.tre (Td.pl b ([], []))).length = b.size + 1 := by simp [Td.tre, hblen]
    have hpA := Td.pow_small (n := s.1.length) (by omega)
    have hpB := Td.pow_small (n := (Td.pl b ([], [])).1.length) (by omega)
    have hQb := Td.tre_in hokb
    have hmv := Td.mv_in hs.1 hQb (by have := Td.pow_ge s.1.length; omega) (by have := Td.pow_ge (Td.pl b ([], [])).1.length; omega)
    have hQb' := hQb.mono (M' := 1000000000000000) (by omega)
    have hP' := hs.1.mono (M' := 100000000000000000) (by omega)
    have hmv' : -1000000000000000 ≤ Td.mv s.1 (Td.tre (Td.pl b ([], []))) ∧ Td.mv s.1 (Td.tre (Td.pl b ([], []))) ≤ 1000000000000000 := by omega
    clear hmv hpA hpB hQb
    rw [← hfst] at hDb
    simp only [Td.pl]
    generalize hQe : Td.tre (Td.pl b ([], [])) = Q at *
    generalize hre : Td.rt (Td.pl b ([], [])).2 = ρ at *
    have hshl : (Td.shf (Td.mv s.1 Q) Q).length = b.size + 1 := by simp [Td.shf, htl]
    have hsnd : (s.1.map Prod.snd).length = s.1.length := List.length_map ..
    have hEn := ihn (p + 1 + b.size) (i + 1) K (s.1 ++ Td.shf (Td.mv s.1 Q) Q, s.2 ++ [ρ + Td.mv s.1 Q]) w κ hp.next hKi.2 (by omega) hokn (by simp only [List.length_append, hshl]; omega) hKl (by simp [hR]) (by simp only [List.length_append, hshl]; omega) (fun j hj => by
      simp only [List.length_append, hshl] at hj
      obtain ⟨h1, h2⟩ := hD j (by omega)
      refine ⟨h1, ?_⟩
      rw [h2]
      simp only [List.map_append, Td.shf_fst, hfst]
      simp) (fun j hj => by
      by_cases hji : j = i
      · subst hji
        refine ⟨s.1.length, by rw [hKr, hpw], by simp only [List.length_append, hshl]; omega, ?_⟩
        simp only [List.map_append, Td.shf_snd, hcols, List.map_cons]
        rw [show (s.1.length : Int) = ((s.1.map Prod.snd).length : Int) by rw [hsnd], Tr.rd_app0, Tr.rd_cons0, ← hR, Tr.rd_app0, Tr.rd_cons0]
      · obtain ⟨m, h1, h2, h3⟩ := hKm j (by omega)
        refine ⟨m, h1, by simp only [List.length_append]; omega, ?_⟩
        simp only [List.map_append]
        rw [Tr.rd_left _ _ _ (by omega) (by rw [hsnd]; omega), Tr.rd_left _ _ _ (by omega) (by omega)]
        exact h3) (fun _ => by
      by_cases h0 : i = 0
      · have hs1 := hz h0
        have hs2 : s.2 = [] := List.length_eq_zero_iff.mp (by omega)
        rw [hs1, hs2]
        simp only [List.map_append, Td.shf_snd, hcols, List.map_cons, List.map_nil, List.nil_append]
        rw [Tr.rd_cons0, Tr.rd_cons0]
      · have h1 := hK0 (by omega)
        obtain ⟨m, h2, h3, h4⟩ := hKm 0 (by omega)
        simp only [List.map_append]
        rw [Tr.rd_left _ _ _ (by omega) (by rw [hsnd]; omega), Tr.rd_left _ _ _ (by omega) (by omega)]
        exact h1) (fun h => by omega)
    have hl3 := ev_l08Tidy_l3 (D := D) (d := d) (K := K) (v := (w : Int)) (i := (i : Int)) (b := Td.mv s.1 Q) (Q.map Prod.snd) [] (0 :: s.1.map Prod.snd) (by simp only [List.nil_append, List.length_map]; omega) (by simp only [List.length_cons, List.length_map]; omega) (fun x hx => by have := hQb' x hx; omega) (by
      rw [Tr.wrap_succ (by omega)]
      simp only [List.map_append, Td.shf_snd] at hEn
      exact hEn)
    simp only [List.nil_append, List.length_nil] at hl3
    have hl1 := ev_l08Tidy_l1 (D := D) (d := d) (x7 := 0 :: s.1.map Prod.snd) (K := K) (v := (w : Int)) (i := (i : Int)) (P := s.1) (Q := Q) (w := w) (c := p) (κ := κ) rfl (by omega) hKr (by omega) (by omega) (by omega) rfl (by omega) (fun a ha => by
      obtain ⟨h1, h2⟩ := hD a (by omega)
      rw [Tr.rd_left _ _ _ (by omega) (by omega)] at h2
      exact ⟨h1, h2⟩) (fun a ha => hDb a (by omega)) hP' (hQb'.mono (by omega)) (by omega) s.1 [] none rfl hl3
    refine Ev_succ ?_
    simp only [spec_l08Tidy.l0]
    refine evpos (by omega) (evpos (by omega) ?_)
    rw [hKr]
    refine Ev.bind hf ?_
    rw [← hcols]
    exact hl1
def mnl : Int → List Int → Int
  | a, [] => a
  | a, x :: xs => mnl (mn a x) xs
theorem mnl_le : ∀ (l : List Int) (a : Int), mnl a l ≤ a := by
  intro l
  induction l with
  | nil => intro a; exact Int.le_refl _
  | cons x l ih => intro a; rw [mnl]; have := ih (mn a x); have h2 : mn a x ≤ a := by rw [td_mn]; omega
                   omega
theorem mnl_in : ∀ (l : List Int) (a M : Int), (-M ≤ a ∧ a ≤ M) → Td.Bd M l → -M ≤ mnl a l ∧ mnl a l ≤ M := by
  intro l
  induction l with
  | nil => intro a M h _; exact h
  | cons x l ih =>
    intro a M h hb
    rw [mnl]
    have hx := hb x (by simp)
    exact ih _ M (by rw [td_mn]; omega) (fun y hy => hb y (List.mem_cons_of_mem _ hy))
theorem ev_slices_Min_l0 : ∀ (S Pre : List Int) (a : Int), (Pre ++ S).length ≤ 1000 → Ev (fun k => slices_Min_int64_int64.l0 k (Pre ++ S) a (Pre.length : Int)) (mnl a S) := by
  intro S
  induction S with
  | nil =>
    intro Pre a hl
    refine Ev_succ ?_
    simp only [slices_Min_int64_int64.l0]
    exact evneg (by simp) (Ev.now _)
  | cons x S ih =>
    intro Pre a hl
    have hl2 := hl
    rw [List.length_append, List.length_cons] at hl
    have e : rd (Pre ++ x :: S) (Pre.length : Int) = x := by rw [Tr.rd_app0]; exact Tr.rd_cons0 _ _
    have e4 : wrap64 ((Pre.length : Int) + 1) = ((Pre ++ [x]).length : Int) := by rw [Tr.wrap_id (by omega) (by omega)]; simp
    refine Ev_succ ?_
    simp only [slices_Min_int64_int64.l0]
    refine evpos (by rw [List.length_append, List.length_cons]; omega) (evpos (by omega) ?_)
    rw [e, e4, mnl]
    have := ih (Pre ++ [x]) (mn a x) (by simpa using hl2)
    simpa using this
theorem ev_tidy_l0 {b : Int} : ∀ (S Pre : List Int) (N : Int), N = ((Pre ++ S).length : Int) → N ≤ 1000 → (∀ x ∈ S, -1000000000000000000 ≤ x - b ∧ x - b ≤ 1000000000000000000) → Ev (fun k => impl_tidy.l0 k (Pre ++ S) b N (Pre.length : Int)) (Pre ++ S.map (· - b)) := by
  intro S
  induction S with
  | nil =>
    intro Pre N hN hl hb
    refine Ev_succ ?_
    simp only [impl_tidy.l0]
    exact evneg (by simp at hN; omega) (evnow (by simp))
  | cons x S ih =>
    intro Pre N hN hl hb
    have hN2 := hN
    rw [List.length_append, List.length_cons] at hN
    have hbx := hb x (by simp)
    have e : rd (Pre ++ x :: S) (Pre.length : Int) = x := by rw [Tr.rd_app0]; exact Tr.rd_cons0 _ _
    have e2 : (Pre ++ x :: S).set ((Pre.length : Int)).toNat (x - b) = (Pre ++ [x - b]) ++ S := by simp
    have e3 : wrap64 (x - b) = x - b := Tr.wrap_id (by omega) (by omega)
    have e4 : wrap64 ((Pre.length : Int) + 1) = ((Pre ++ [x - b]).length : Int) := by rw [Tr.wrap_id (by omega) (by omega)]; simp
    refine Ev_succ ?_
    simp only [impl_tidy.l0]
    refine evpos (by omega) (evpos (by omega) (evpos (by rw [List.length_append, List.length_cons]; omega) ?_))
    rw [e, e3, e2, e4]
    have := ih (Pre ++ [x - b]) N (by simp only [List.length_append, List.length_cons, List.length_nil]; omega) hl (fun y hy => hb y (List.mem_cons_of_mem _ hy))
    simpa using this
theorem ev_tidy {d : List Int} {b : Tr.F} (hd : d.length ≤ 24) (hp : Tr.Pl d 0 (.cons b .nil)) : Ev (fun k => impl_tidy.f k d) ((((Td.tre (Td.pl b ([], []))).map Prod.snd)).map (· - mnl (Td.rt (Td.pl b ([], [])).2) ((Td.pl b ([], [])).1.map Prod.snd))) := by
  have hle := hp.le
  simp only [Tr.F.size] at hle
  obtain ⟨lo, hi, hE⟩ := ev_draw hd hp
  have hcols : (Td.tre (Td.pl b ([], []))).map Prod.snd = Td.rt (Td.pl b ([], [])).2 :: (Td.pl b ([], [])).1.map Prod.snd := by simp [Td.tre, Function.comp_def]
  have hok := Td.ok_pl b _ Td.ok_nil
  have hlen := Td.pl_len b ([], [])
  simp only [List.length_nil, Nat.zero_add] at hlen
  have hpA := Td.pow_small (n := (Td.pl b ([], [])).1.length) (by omega)
  have hpg := Td.pow_ge (Td.pl b ([], [])).1.length
  have hb := Td.tre_in hok
  have hrt := Td.rt_in hok.2.1 (by omega)
  have hmn := mnl_in ((Td.pl b ([], [])).1.map Prod.snd) (Td.rt (Td.pl b ([], [])).2) _ hrt hok.1
  have hcl : ((Td.tre (Td.pl b ([], []))).map Prod.snd).length = b.size + 1 := by rw [hcols]; simp [hlen]
  unfold impl_tidy.f
  refine Ev.bind hE ?_
  dsimp only
  have hmin : Ev (fun k => slices_Min_int64_int64.f k ((Td.tre (Td.pl b ([], []))).map Prod.snd)) (mnl (Td.rt (Td.pl b ([], [])).2) ((Td.pl b ([], [])).1.map Prod.snd)) := by
    unfold slices_Min_int64_int64.f
    refine evneg (by omega) (evpos (by omega) ?_)
    rw [hcols, Tr.rd_cons0]
    have := ev_slices_Min_l0 ((Td.pl b ([], [])).1.map Prod.snd) [Td.rt (Td.pl b ([], [])).2] (Td.rt (Td.pl b ([], [])).2) (by simp [hlen]; omega)
    exact this
  refine Ev.bind hmin ?_
  have := ev_tidy_l0 (b := mnl (Td.rt (Td.pl b ([], [])).2) ((Td.pl b ([], [])).1.map Prod.snd)) ((Td.tre (Td.pl b ([], []))).map Prod.snd) [] _ rfl (by rw [List.nil_append]; omega) (fun x hx => by have := hb x hx; omega)
  exact this
theorem ev_l08Columns_l1 {b : Int} : ∀ (S Pre : List Int), (Pre ++ S).length ≤ 1000 → (∀ x ∈ S, -1000000000000000000 ≤ x - b ∧ x - b ≤ 1000000000000000000) → Ev (fun k => spec_l08Columns.l1 k (Pre ++ S) b (Pre.length : Int)) (Pre ++ S.map (· - b)) := by
  intro S
  induction S with
  | nil =>
    intro Pre hl hb
    refine Ev_succ ?_
    simp only [spec_l08Columns.l1]
    exact evneg (by simp) (evnow (by simp))
  | cons x S ih =>
    intro Pre hl hb
    have hl2 := hl
    rw [List.length_append, List.length_cons] at hl
    have hbx := hb x (by simp)
    have e : rd (Pre ++ x :: S) (Pre.length : Int) = x := by rw [Tr.rd_app0]; exact Tr.rd_cons0 _ _
    have e2 : (Pre ++ x :: S).set ((Pre.length : Int)).toNat (x - b) = (Pre ++ [x - b]) ++ S := by simp
    have e3 : wrap64 (x - b) = x - b := Tr.wrap_id (by omega) (by omega)
    have e4 : wrap64 ((Pre.length : Int) + 1) = ((Pre ++ [x - b]).length : Int) := by rw [Tr.wrap_id (by omega) (by omega)]; simp
    refine Ev_succ ?_
    simp only [spec_l08Columns.l1]
    refine evpos (by rw [List.length_append, List.length_cons]; omega) (evpos (by omega) ?_)
    rw [e, e3, e2, e4]
    have := ih (Pre ++ [x - b]) (by simp only [List.length_append, List.length_cons, List.length_nil]; omega) (fun y hy => hb y (List.mem_cons_of_mem _ hy))
    simpa using this
theorem ev_l08Columns_l0 {r : List Int} {C : List Int} (hC : C.length ≤ 1000) : ∀ (S Pre : List Int) (a : Int), C = Pre ++ S → Ev (fun k => spec_l08Columns.l1 k C (mnl a S) 0) r → Ev (fun k => spec_l08Columns.l0 k C a (Pre.length : Int)) r := by
  intro S
  induction S with
  | nil =>
    intro Pre a hS hr
    rw [List.append_nil] at hS
    subst hS
    refine Ev_succ ?_
    simp only [spec_l08Columns.l0]
    exact evneg (by omega) hr
  | cons x S ih =>
    intro Pre a hS hr
    have hlen : C.length = Pre.length + (S.length + 1) := by rw [hS]; simp
    have e : rd C (Pre.length : Int) = x := by rw [hS, Tr.rd_app0]; exact Tr.rd_cons0 _ _
    have e4 : wrap64 ((Pre.length : Int) + 1) = ((Pre ++ [x]).length : Int) := by rw [Tr.wrap_id (by omega) (by omega)]; simp
    refine Ev_succ ?_
    simp only [spec_l08Columns.l0]
    refine evpos (by omega) (evpos (by omega) ?_)
    rw [e, e4]
    exact ih (Pre ++ [x]) (mn a x) (by rw [hS]; simp) hr
theorem td_dep : ∀ (g : Tr.F) (p : Nat) (k : Int) (c : Nat), p ≤ c → c < p + g.size → g.dep p k c = rd (g.depths k) ((c - p : Nat) : Int) := by
  intro g
  induction g with
  | nil => intro p k c h1 h2; simp [Tr.F.size] at h2; omega
  | cons b n hb hn =>
    intro p k c h1 h2
    simp only [Tr.F.size] at h2
    rw [Tr.F.dep, Tr.F.depths]
    by_cases e : c = p
    · rw [if_pos e, e, Nat.sub_self]; exact (Tr.rd_cons0 _ _).symm
    · rw [if_neg e]
      have hc : c - p = (c - p - 1) + 1 := by omega
      rw [hc, td_rdc]
      by_cases h3 : c < p + 1 + b.size
      · rw [if_pos h3, hb _ _ _ (by omega) h3, Tr.rd_left _ _ _ (by omega) (by rw [Tr.F.depths_len]; omega), show c - (p + 1) = c - p - 1 by omega]
      · rw [if_neg h3, hn _ _ _ (by omega) (by omega), show ((c - p - 1 : Nat) : Int) = (((b.depths (k + 1)).length + (c - (p + 1 + b.size)) : Nat) : Int) by rw [Tr.F.depths_len]; omega, Tr.rd_app]
theorem ev_l08Columns {d : List Int} {t b : Tr.F} (h : Tr.Tree d t) (ht : t = .cons b .nil) : Ev (fun k => spec_l08Columns.f k d) ((((Td.tre (Td.pl b ([], []))).map Prod.snd)).map (· - mnl (Td.rt (Td.pl b ([], [])).2) ((Td.pl b ([], [])).1.map Prod.snd))) := by
  have hd := h.le
  have hlen2 := h.len
  have hp := h.pl
  rw [ht] at hp
  have hsz : t.size = b.size + 1 := by rw [ht]; simp only [Tr.F.size]; omega
  have hbl := Tr.F.len_le b
  have hcols : (Td.tre (Td.pl b ([], []))).map Prod.snd = Td.rt (Td.pl b ([], [])).2 :: (Td.pl b ([], [])).1.map Prod.snd := by simp [Td.tre, Function.comp_def]
  have hok := Td.ok_pl b _ Td.ok_nil
  have hlen := Td.pl_len b ([], [])
  simp only [List.length_nil, Nat.zero_add] at hlen
  have hpA := Td.pow_small (n := (Td.pl b ([], [])).1.length) (by omega)
  have hpg := Td.pow_ge (Td.pl b ([], [])).1.length
  have hb := Td.tre_in hok
  have hrt := Td.rt_in hok.2.1 (by omega)
  have hmn := mnl_in ((Td.pl b ([], [])).1.map Prod.snd) (Td.rt (Td.pl b ([], [])).2) _ hrt hok.1
  have hcl : ((Td.tre (Td.pl b ([], []))).map Prod.snd).length = b.size + 1 := by rw [hcols]; simp [hlen]
  unfold spec_l08Columns.f
  refine Ev.bind (ev_l01Depths h) ?_
  have hE := ev_l08Tidy_l0 (d := d) (D := Tr.depthsL t) (by omega) b 1 0 (b.roots 1) ([], []) 0 1 hp.below rfl (by rw [Tr.F.roots_len]; omega) Td.ok_nil (by simp; omega) (by rw [Tr.F.roots_len]; omega) rfl (by simp) (fun j hj => by
    simp only [List.length_nil, Nat.zero_add] at hj
    have hl : (Tr.depthsL t).length = t.size := Tr.each_len _ _
    refine ⟨by omega, ?_⟩
    have h1 : rd (Tr.depthsL t) ((0 + 1 + j : Nat) : Int) = t.dep 0 0 (0 + 1 + j) := Tr.each_rd (by omega)
    rw [h1, td_dep t 0 0 _ (by omega) (by omega), ht, Tr.F.depths, show 0 + 1 + j - 0 = j + 1 by omega, td_rdc, Tr.rd_left _ _ _ (by omega) (by rw [Tr.F.depths_len]; omega), Td.depths_succ]
    simp only [List.map_nil, List.nil_append]
    have hjl : j < (b.depths 0).length := by rw [Tr.F.depths_len]; exact hj
    rw [Tr.rd_getElem (by rw [List.length_map]; exact hjl), Tr.rd_getElem hjl, List.getElem_map]
    omega) (fun j hj => by omega) (fun h => by omega) (fun _ => rfl)
  have hf : Ev (fun k => spec_l08Tidy.f k d (Tr.depthsL t) 0) ((Td.tre (Td.pl b ([], []))).map Prod.snd) := by
    refine Ev_succ ?_
    simp only [spec_l08Tidy.f]
    rw [hcols]
    exact Ev.bind (ev_l01Children (by omega) hp) hE
  refine Ev.bind hf (evpos (by omega) ?_)
  have hr0 : rd ((Td.tre (Td.pl b ([], []))).map Prod.snd) 0 = Td.rt (Td.pl b ([], [])).2 := by rw [hcols, Tr.rd_cons0]
  rw [hr0]
  refine ev_l08Columns_l0 (C := (Td.tre (Td.pl b ([], []))).map Prod.snd) (by omega) ((Td.tre (Td.pl b ([], []))).map Prod.snd) [] _ rfl ?_
  have hm : mnl (Td.rt (Td.pl b ([], [])).2) ((Td.tre (Td.pl b ([], []))).map Prod.snd) = mnl (Td.rt (Td.pl b ([], [])).2) ((Td.pl b ([], [])).1.map Prod.snd) := by
    rw [hcols, mnl]
    congr 1
    rw [td_mn]; omega
  rw [hm]
  exact ev_l08Columns_l1 ((Td.tre (Td.pl b ([], []))).map Prod.snd) [] (by rw [List.nil_append]; omega) (fun x hx => by have := hb x hx; omega)
def mxl : Int → List Int → Int
  | a, [] => a
  | a, x :: xs => mxl (mx a x) xs
theorem ev_tw_Max_l0 : ∀ (S Pre : List Int) (a : Int), (Pre ++ S).length ≤ 1000 → Ev (fun k => slices_Max_int64_int64.l0 k (Pre ++ S) a (Pre.length : Int)) (mxl a S) := by
  intro S
  induction S with
  | nil =>
    intro Pre a hl
    refine Ev_succ ?_
    simp only [slices_Max_int64_int64.l0]
    exact evneg (by simp) (Ev.now _)
  | cons x S ih =>
    intro Pre a hl
    have hl2 := hl
    rw [List.length_append, List.length_cons] at hl
    have e : rd (Pre ++ x :: S) (Pre.length : Int) = x := by rw [Tr.rd_app0]; exact Tr.rd_cons0 _ _
    have e4 : wrap64 ((Pre.length : Int) + 1) = ((Pre ++ [x]).length : Int) := by rw [Tr.wrap_id (by omega) (by omega)]; simp
    refine Ev_succ ?_
    simp only [slices_Max_int64_int64.l0]
    refine evpos (by rw [List.length_append, List.length_cons]; omega) (evpos (by omega) ?_)
    rw [e, e4, mxl]
    have := ih (Pre ++ [x]) (mx a x) (by simpa using hl2)
    simpa using this
theorem ev_TidyWidth_l0 : ∀ (S Pre : List Int) (a : Int), (Pre ++ S).length ≤ 1000 → Ev (fun k => spec_TidyWidth.l0 k (Pre ++ S) a (Pre.length : Int)) (mxl a S, 0) := by
  intro S
  induction S with
  | nil =>
    intro Pre a hl
    refine Ev_succ ?_
    simp only [spec_TidyWidth.l0]
    exact evneg (by simp) (Ev.now _)
  | cons x S ih =>
    intro Pre a hl
    have hl2 := hl
    rw [List.length_append, List.length_cons] at hl
    have e : rd (Pre ++ x :: S) (Pre.length : Int) = x := by rw [Tr.rd_app0]; exact Tr.rd_cons0 _ _
    have e4 : wrap64 ((Pre.length : Int) + 1) = ((Pre ++ [x]).length : Int) := by rw [Tr.wrap_id (by omega) (by omega)]; simp
    refine Ev_succ ?_
    simp only [spec_TidyWidth.l0]
    refine evpos (by rw [List.length_append, List.length_cons]; omega) (evpos (by omega) ?_)
    rw [e, e4, mxl]
    have := ih (Pre ++ [x]) (mx a x) (by simpa using hl2)
    simpa using this
theorem ev_TidyWidth (d : List Int) : ∃ r : Int × Int, Ev (fun k => spec_TidyWidth.f k d) r ∧ Ev (fun k => impl_TidyWidth.f k d) r := by
  rcases Tr.isT_cases d with h | ⟨t, h⟩
  · refine ⟨(0, 1), ?_, ?_⟩
    · unfold spec_TidyWidth.f; exact Ev.bind (ev_l01Is d) (evneg (by simp [h]) (Ev.now _))
    · unfold impl_TidyWidth.f; exact Ev.bind (ev_IsTree d) (evneg (by simp [h]) (Ev.now _))
  · have hle := h.le
    obtain ⟨b, ht⟩ := h.one
    have hp := h.pl
    rw [ht] at hp
    have hple := hp.le
    simp only [Tr.F.size] at hple
    have hlen := Td.pl_len b ([], [])
    simp only [List.length_nil, Nat.zero_add] at hlen
    have hc := ev_l08Columns h ht
    have hi_ := ev_tidy hle hp
    have hcols : (Td.tre (Td.pl b ([], []))).map Prod.snd = Td.rt (Td.pl b ([], [])).2 :: (Td.pl b ([], [])).1.map Prod.snd := by simp [Td.tre, Function.comp_def]
    have hm := mnl_le ((Td.pl b ([], [])).1.map Prod.snd) (Td.rt (Td.pl b ([], [])).2)
    have hl2 : ((Td.pl b ([], [])).1.map Prod.snd).length ≤ 24 := by rw [List.length_map]; omega
    rw [hcols, List.map_cons] at hc hi_
    generalize mnl (Td.rt (Td.pl b ([], [])).2) ((Td.pl b ([], [])).1.map Prod.snd) = low at hc hi_ hm
    generalize hr : ((Td.pl b ([], [])).1.map Prod.snd).map (· - low) = R at hc hi_
    have hRl : R.length ≤ 24 := by rw [← hr, List.length_map]; exact hl2
    have hx0 : 0 ≤ Td.rt (Td.pl b ([], [])).2 - low := by omega
    generalize Td.rt (Td.pl b ([], [])).2 - low = x0 at hc hi_ hx0
    refine ⟨(mxl x0 R, 0), ?_, ?_⟩
    · unfold spec_TidyWidth.f
      refine Ev.bind (ev_l01Is d) (evpos h.isT (Ev.bind hc ?_))
      have := ev_TidyWidth_l0 (x0 :: R) [] 0 (by simp; omega)
      rw [mxl, show mx 0 x0 = x0 by rw [td_mx]; omega] at this
      exact this
    · unfold impl_TidyWidth.f
      refine Ev.bind (ev_IsTree d) (evpos h.isT (Ev.bind hi_ (Ev.bind (a := mxl x0 R) ?_ (Ev.now _))))
      unfold slices_Max_int64_int64.f
      refine evneg (by simp only [List.length_cons]; omega) (evpos (by simp only [List.length_cons]; omega) ?_)
      rw [Tr.rd_cons0]
      exact ev_tw_Max_l0 R [x0] x0 (by simp; omega)
theorem pure_FnExactTidyWidth (l0 : List Int) (hl0 : l0.length ≤ maxLen) (_ : ∀ x ∈ l0, (Lit.int .i64 x).wf = true) : ∃ k, laws_FnExactTidyWidth.f k l0 = some true := by
  unfold maxLen at hl0
  refine Ev.rounds ?_
  unfold laws_FnExactTidyWidth.f
  rw [szTree_eq l0 (1048576) (by omega) (by omega) (by omega)]
  refine evsome ?_
  by_cases hs0 : (1048576 : Int) - l0.length < 0
  · rw [if_pos hs0]; exact evpos (by omega) (Ev.now _)
  rw [if_neg hs0]
  refine evneg hs0 ?_
  obtain ⟨r, hq, hi⟩ := ev_TidyWidth l0
  repeat first
    | exact Ev.now _
    | refine Ev.bind hq ?_
    | refine Ev.bind hi ?_
    | refine Ev.bind (ev_toTree l0 (by omega)) ?_
    | refine Ev.bind (ev_eqTree l0 l0 (by omega) (by omega)) ?_
    | (refine evpos ?_ ?_; first | rfl | (simp <;> fail))
    | (refine evneg ?_ ?_; first | (simp <;> fail) | (simp <;> omega))
end Go.Proofs.Yteangdgmokkjbab.QFnExactTidyWidth
