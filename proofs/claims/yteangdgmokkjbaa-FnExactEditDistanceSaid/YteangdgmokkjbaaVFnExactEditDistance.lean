import Derived.Test.YteangdgmokkjbaaQFnExactEditDistancex
import Derived.Test.YteangdgmokkjbaaTr
import Derived.Test.YteangdgmokkjbaaNd
import Derived.Test.YteangdgmokkjbaaEd
import Derived.Test.YteangdgmokkjbaaGl
import Derived.Test.YteangdgmokkjbaaAgg
namespace Go.Proofs.Yteangdgmokkjbaa.QFnExactEditDistance
open Go.RowKit Go.Proofs.YteangdgmokkjbaaW.PrintWords Go.Proofs.YteangdgmokkjbaaW.PrintLast Go.Proofs.YteangdgmokkjbaaW.PrintMore Go.Proofs.Yteangdgmokkjbaa
set_option linter.unusedVariables false
set_option linter.unusedSimpArgs false
theorem Ev_succ {α : Type} {g : Nat → Option α} {r : α} (h : Ev (fun k => g (k + 1)) r) : Ev g r := Ev.step (fun _ => rfl) h
theorem evpos {α : Type} {c : Prop} [Decidable c] {f g : Nat → Option α} {r : α} (h : c) (k : Ev f r) : Ev (fun n => if c then f n else g n) r := by
  simp only [if_pos h]; exact k
theorem evneg {α : Type} {c : Prop} [Decidable c] {f g : Nat → Option α} {r : α} (h : ¬ c) (k : Ev g r) : Ev (fun n => if c then f n else g n) r := by
  simp only [if_neg h]; exact k
theorem evsome {α β : Type} {a : α} {f : Nat → α → Option β} {r : β} (k : Ev (fun n => f n a) r) : Ev (fun n => (some a).bind (f n)) r := k
theorem evnow {α : Type} {a r : α} (h : a = r) : Ev (fun _ => some a) r := by subst h; exact Ev.now _
theorem ev_eq_l0 (xs ys : List Int) (hl : xs.length = ys.length) (hb : xs.length ≤ 1152921504606846976) : ∀ (n i : Nat), i + n = xs.length →
    Ev (fun k => laws_eqInt64S.l0 k xs ys (i : Nat)) (decide (xs.drop i = ys.drop i)) := by
  intro n
  induction n with
  | zero =>
    intro i hi
    refine Ev_succ ?_
    simp only [laws_eqInt64S.l0]
    refine evneg (by omega) (evnow ?_)
    rw [List.drop_of_length_le (by omega), List.drop_of_length_le (by omega)]; rfl
  | succ n ih =>
    intro i hi
    refine Ev_succ ?_
    simp only [laws_eqInt64S.l0]
    refine evpos (by omega) (evpos (by omega) (evpos (by omega) ?_))
    rw [Tr.rd_getElem (by omega : i < xs.length), Tr.rd_getElem (by omega : i < ys.length)]
    have e : wrap64 ((i : Int) + 1) = ((i + 1 : Nat) : Int) := by rw [Tr.wrap_id (by omega) (by omega)]; omega
    rw [e]
    have e3 : (xs.drop i = ys.drop i) = (xs[i] = ys[i] ∧ xs.drop (i + 1) = ys.drop (i + 1)) := by
      rw [List.drop_eq_getElem_cons (by omega : i < xs.length), List.drop_eq_getElem_cons (by omega : i < ys.length)]
      exact List.cons.injEq _ _ _ _
    have e4 : decide (xs.drop i = ys.drop i) = decide (xs[i] = ys[i] ∧ xs.drop (i + 1) = ys.drop (i + 1)) := by simp only [e3]
    rw [e4]
    by_cases h : xs[i] = ys[i]
    · refine evpos h ?_
      have := ih (i + 1) (by omega)
      rw [show decide (xs[i] = ys[i] ∧ xs.drop (i + 1) = ys.drop (i + 1)) = decide (xs.drop (i + 1) = ys.drop (i + 1)) by simp only [h, true_and]]
      exact this
    · refine evneg h (evnow ?_)
      simp only [h, false_and, decide_false]
theorem ev_eqInt64S (xs ys : List Int) (hb : xs.length ≤ 1152921504606846976) (hc : ys.length ≤ 1152921504606846976) : Ev (fun k => laws_eqInt64S.f k xs ys) (decide (xs = ys)) := by
  unfold laws_eqInt64S.f
  by_cases h : xs.length = ys.length
  · refine evpos (by omega) ?_
    have := ev_eq_l0 xs ys h hb xs.length 0 (by omega)
    simpa using this
  · refine evneg (by omega) (evnow ?_)
    rw [eq_comm, decide_eq_false_iff_not]
    intro e; exact h (by rw [e])
theorem ev_eqTree (xs ys : List Int) (hb : xs.length ≤ 1152921504606846976) (hc : ys.length ≤ 1152921504606846976) : Ev (fun k => laws_eqTree.f k xs ys) (decide (xs = ys)) := by
  unfold laws_eqTree.f
  refine Ev.bind (ev_eqInt64S xs ys hb hc) ?_
  by_cases h : xs = ys
  · rw [decide_eq_true h]; exact evpos rfl (Ev.now _)
  · rw [decide_eq_false h]; exact evneg (by simp) (Ev.now _)
theorem szInt64S_eq (xs : List Int) (a : Int) (h0 : 0 ≤ a) (h1 : a ≤ 1048576) (hb : xs.length ≤ 9223372036854775807) : laws_szInt64S.f xs a = some (if a - xs.length < 0 then -1 else a - xs.length) := by
  unfold laws_szInt64S.f
  rw [Tr.wrap_id (by omega) (by omega)]
  split <;> rfl
theorem szTree_eq (xs : List Int) (a : Int) (h0 : 0 ≤ a) (h1 : a ≤ 1048576) (hb : xs.length ≤ 9223372036854775807) : laws_szTree.f xs a = some (if a - xs.length < 0 then -1 else a - xs.length) := by
  unfold laws_szTree.f
  rw [szInt64S_eq xs a h0 h1 hb]
  simp only [Option.bind_some]
  by_cases h : a - xs.length < 0
  · simp only [if_pos h]; rfl
  · simp only [if_neg h]
theorem ev_to_l0 (xs : List Int) (hb : xs.length ≤ 35184372088832) : ∀ (n i : Nat) (ys : List Int), i + n = xs.length → ys.length = xs.length → ys.take i = xs.take i →
    Ev (fun k => laws_toInt64S.l0 k xs ys (i : Nat)) xs := by
  intro n
  induction n with
  | zero =>
    intro i ys hi hy ht
    refine Ev_succ ?_
    simp only [laws_toInt64S.l0]
    refine evneg (by omega) (evnow ?_)
    rwa [List.take_of_length_le (by omega), List.take_of_length_le (by omega)] at ht
  | succ n ih =>
    intro i ys hi hy ht
    refine Ev_succ ?_
    simp only [laws_toInt64S.l0]
    refine evpos (by omega) (evpos (by omega) (evpos (by omega) ?_))
    have e : wrap64 ((i : Int) + 1) = ((i + 1 : Nat) : Int) := by rw [Tr.wrap_id (by omega) (by omega)]; omega
    rw [e, Tr.rd_getElem (by omega : i < xs.length), Int.toNat_natCast]
    refine ih (i + 1) _ (by omega) (by simp [hy]) ?_
    rw [List.take_succ_eq_append_getElem (by simp; omega), List.take_succ_eq_append_getElem (by omega)]
    simp [List.take_set_of_le, ht]
theorem ev_toInt64S (xs : List Int) (hb : xs.length ≤ 35184372088832) : Ev (fun k => laws_toInt64S.f k xs) xs := by
  unfold laws_toInt64S.f
  refine evpos (by omega) (evpos (by omega) ?_)
  have := ev_to_l0 xs hb xs.length 0 (List.replicate xs.length 0) (by omega) (by simp) (by simp)
  simpa using this
theorem ev_toTree (xs : List Int) (hb : xs.length ≤ 35184372088832) : Ev (fun k => laws_toTree.f k xs) xs := by
  unfold laws_toTree.f
  exact Ev.bind (ev_toInt64S xs hb) (Ev.now _)
/-- The numbers m, m + 1, .. -/
def up (m : Int) : Nat → List Int
  | 0 => []
  | n + 1 => m :: up (m + 1) n
theorem up_len (n : Nat) : ∀ m, (up m n).length = n := by
  induction n with
  | zero => intro m; rfl
  | succ n ih => intro m; simp [up, ih]
theorem up_get (n : Nat) : ∀ (m : Int) (i : Nat) (h : i < (up m n).length), (up m n)[i] = m + i := by
  induction n with
  | zero => intro m i h; simp [up] at h
  | succ n ih =>
    intro m i h
    cases i with
    | zero => simp [up]
    | succ i => simp only [up, List.getElem_cons_succ, ih]; omega
theorem ev_isTree_l0 : ∀ (l pre : List Int) (m : Int) (n : Int), n = ((pre ++ l).length : Int) → n ≤ 1000 → 0 ≤ m → m + 24 * l.length ≤ 100000 →
    Ev (fun k => impl_isTree.l0 k m (pre ++ l) n (pre.length : Int)) (Tr.ok l m) := by
  intro l
  induction l with
  | nil =>
    intro pre m n hn hb h0 h1
    refine Ev_succ ?_
    simp only [impl_isTree.l0]
    simp only [List.length_append, List.length_nil] at hn
    refine evneg (by omega) (evnow ?_)
    rfl
  | cons x l ih =>
    intro pre m n hn hb h0 h1
    refine Ev_succ ?_
    simp only [impl_isTree.l0]
    have hn' := hn
    simp only [List.length_append, List.length_cons] at hn h1 ⊢
    refine evpos (by omega) (evpos (by omega) (evpos (by simp; omega) ?_))
    have e : rd (pre ++ x :: l) (pre.length : Int) = x := by rw [Tr.rd_app0]; exact Tr.rd_cons0 _ _
    rw [e]
    by_cases hm : m = 0
    · refine evpos hm (evnow ?_); simp [Tr.ok, hm]
    · refine evneg hm ?_
      by_cases hx : x < 0
      · refine evpos hx (evnow ?_); simp [Tr.ok, hm, Int.not_le.mpr hx]
      · refine evneg hx ?_
        by_cases hy : x ≥ 24
        · refine evpos hy (evnow ?_); simp [Tr.ok, hm, Int.not_lt.mpr hy]
        · refine evneg hy ?_
          have e2 : wrap64 (m + wrap64 (x - 1)) = m - 1 + x := by rw [Tr.wrap_id (x := x - 1) (by omega) (by omega), Tr.wrap_id (by omega) (by omega)]; omega
          have e3 : wrap64 ((pre.length : Int) + 1) = ((pre ++ [x]).length : Int) := by rw [Tr.wrap_id (by omega) (by omega)]; simp
          rw [e2, e3]
          have := ih (pre ++ [x]) (m - 1 + x) n (by simp; omega) hb (by omega) (by omega)
          simp only [List.append_assoc, List.singleton_append] at this
          rw [show Tr.ok (x :: l) m = Tr.ok l (m - 1 + x) by
            have : (m != 0) = true := bne_iff_ne.mpr hm
            have h4 : decide (0 ≤ x) = true := decide_eq_true (by omega)
            have h5 : decide (x < 24) = true := decide_eq_true (by omega)
            simp only [Tr.ok, this, h4, h5, Bool.true_and]]
          exact this
theorem ev_isTree (d : List Int) : Ev (fun k => impl_isTree.f k d) (Tr.isT d) := by
  unfold impl_isTree.f
  by_cases h : (d.length : Int) < 1
  · refine evpos h (Ev_succ ?_)
    simp only [impl_isTree.j0]
    refine evpos (by simp) (evnow ?_)
    simp only [Tr.isT, decide_eq_false (by omega : ¬ 1 ≤ d.length), Bool.false_and]
  · refine evneg h (Ev_succ ?_)
    simp only [impl_isTree.j0]
    by_cases h2 : (d.length : Int) > 24
    · refine evpos (decide_eq_true h2) (evnow ?_)
      simp only [Tr.isT, decide_eq_false (by omega : ¬ d.length ≤ 24), Bool.false_and, Bool.and_false]
    · refine evneg (by simpa using h2) ?_
      have := ev_isTree_l0 d [] 1 d.length (by simp) (by omega) (by omega) (by omega)
      rw [show Tr.isT d = Tr.ok d 1 by simp only [Tr.isT, decide_eq_true (by omega : 1 ≤ d.length), decide_eq_true (by omega : d.length ≤ 24), Bool.true_and]]
      exact this
theorem ev_IsTree (d : List Int) : Ev (fun k => impl_IsTree.f k d) (Tr.isT d) := by
  unfold impl_IsTree.f
  exact Ev.bind (ev_isTree d) (Ev.now _)
theorem l01In_eq (a b c : Int) : spec_l01In.f a b c = some (decide (b ≤ a ∧ a ≤ c)) := by
  unfold spec_l01In.f
  by_cases h : a ≥ b
  · rw [if_pos h]; congr 1; simp; omega
  · rw [if_neg h]; congr 1; symm; simp; omega
theorem l01N_eq (d : List Int) : spec_l01N.f d = some (d.length : Int) := rfl
theorem ev_l01Is_l0 : ∀ (l pre : List Int) (m : Int), (pre ++ l).length ≤ 24 → 0 ≤ m → (m ≥ 1 ∨ True) → m + 25 * l.length ≤ 100000 →
    Ev (fun k => spec_l01Is.l0 k m (pre.length : Int) (pre ++ l)) (Tr.ok25 l m) := by
  intro l
  induction l with
  | nil =>
    intro pre m hb h0 _ h1
    refine Ev_succ ?_
    simp only [spec_l01Is.l0, List.length_append, List.length_nil]
    refine evneg (by omega) (evnow ?_)
    rfl
  | cons x l ih =>
    intro pre m hb h0 _ h1
    refine Ev_succ ?_
    simp only [spec_l01Is.l0]
    simp only [List.length_append, List.length_cons] at h1 hb ⊢
    refine evpos (by omega) ?_
    have e : rd (pre ++ x :: l) (pre.length : Int) = x := by rw [Tr.rd_app0]; exact Tr.rd_cons0 _ _
    rw [e, l01In_eq]
    by_cases hm : m = 0
    · refine evpos hm (evnow ?_); simp [Tr.ok25, hm]
    · refine evneg hm (evpos (by omega) (evsome ?_))
      by_cases hx : 0 ≤ x ∧ x ≤ 24
      · refine evpos (decide_eq_true hx) ?_
        have e2 : wrap64 (wrap64 (m - 1) + x) = m - 1 + x := by rw [Tr.wrap_id (x := m - 1) (by omega) (by omega), Tr.wrap_id (by omega) (by omega)]
        have e3 : wrap64 ((pre.length : Int) + 1) = ((pre ++ [x]).length : Int) := by rw [Tr.wrap_id (by omega) (by omega)]; simp
        rw [e2, e3]
        have := ih (pre ++ [x]) (m - 1 + x) (by simp; omega) (by omega) (.inr trivial) (by omega)
        simp only [List.append_assoc, List.singleton_append] at this
        rw [show Tr.ok25 (x :: l) m = Tr.ok25 l (m - 1 + x) by
          have : (m != 0) = true := bne_iff_ne.mpr hm
          simp only [Tr.ok25, this, decide_eq_true hx, Bool.true_and]]
        exact this
      · refine evneg (by simpa using hx) (evnow ?_)
        simp only [Tr.ok25, decide_eq_false hx, Bool.false_and, Bool.and_false]
theorem ev_l01Is (d : List Int) : Ev (fun k => spec_l01Is.f k d) (Tr.isT d) := by
  unfold spec_l01Is.f
  rw [l01N_eq]
  refine evsome ?_
  rw [l01In_eq]
  refine evsome ?_
  by_cases h : (1 : Int) ≤ (d.length : Int) ∧ (d.length : Int) ≤ 24
  · refine evpos (decide_eq_true h) ?_
    have := ev_l01Is_l0 d [] 1 (by simp; omega) (by omega) (.inr trivial) (by omega)
    rw [Tr.isT_eq25 d (by omega) (by omega)]
    exact this
  · refine evneg (by simpa using h) (evnow ?_)
    simp only [Tr.isT]
    by_cases h2 : 1 ≤ d.length
    · simp only [decide_eq_false (by omega : ¬ d.length ≤ 24), Bool.false_and, Bool.and_false]
    · simp only [decide_eq_false h2, Bool.false_and]
theorem ev_endOf_l0 (d : List Int) (hd : d.length ≤ 1000) (r : Int) : ∀ (g : Tr.F) (p j : Nat), Tr.Pl d p g → j + g.size ≤ 100000 →
    Ev (fun k => impl_endOf.l0 k d ((p + g.size : Nat) : Int) (j : Int)) r → Ev (fun k => impl_endOf.l0 k d (p : Int) ((g.len + j : Nat) : Int)) r := by
  intro g
  induction g with
  | nil => intro p j _ _ h; simpa [Tr.F.size, Tr.F.len] using h
  | cons b n hb hn =>
    intro p j hp hj h
    have hle := hp.le
    simp only [Tr.F.size] at hle hj
    have l1 := Tr.F.len_le b
    have l2 := Tr.F.len_le n
    refine Ev_succ ?_
    simp only [impl_endOf.l0, Tr.F.len]
    refine evpos (by omega) (evpos (by omega) (evpos (by omega) ?_))
    rw [hp.deg]
    have e : wrap64 ((p : Int) + 1) = ((p + 1 : Nat) : Int) := by rw [Tr.wrap_id (by omega) (by omega)]; omega
    have e2 : wrap64 (((1 + n.len + j : Nat) : Int) + wrap64 ((b.len : Int) - 1)) = ((b.len + (n.len + j) : Nat) : Int) := by
      rw [Tr.wrap_id (x := (b.len : Int) - 1) (by omega) (by omega), Tr.wrap_id (by omega) (by omega)]; omega
    rw [e, e2]
    refine hb (p + 1) (n.len + j) hp.below (by omega) ?_
    refine hn (p + 1 + b.size) j hp.next (by omega) ?_
    rw [show p + 1 + b.size + n.size = p + (Tr.F.cons b n).size by simp only [Tr.F.size]; omega]
    exact h
theorem ev_endOf {d : List Int} (hd : d.length ≤ 1000) {p : Nat} {b n : Tr.F} (h : Tr.Pl d p (.cons b n)) : Ev (fun k => impl_endOf.f k d (p : Int)) ((p + 1 + b.size : Nat) : Int) := by
  unfold impl_endOf.f
  have := ev_endOf_l0 d hd ((p + 1 + b.size : Nat) : Int) (.cons b .nil) p 0 h.one (by have := h.le; simp only [Tr.F.size] at this ⊢; omega)
  simp only [Tr.F.len, Tr.F.size] at this
  refine this ?_
  refine Ev_succ ?_
  simp only [impl_endOf.l0]
  refine evneg (by omega) (evnow (by omega))
theorem ev_l01End_l0 (d : List Int) (hd : d.length ≤ 1000) (r : Int) : ∀ (g : Tr.F) (p j : Nat), Tr.Pl d p g → j + g.size ≤ 100000 →
    Ev (fun k => spec_l01End.l0 k ((p + g.size : Nat) : Int) (j : Int) d) r → Ev (fun k => spec_l01End.l0 k (p : Int) ((g.len + j : Nat) : Int) d) r := by
  intro g
  induction g with
  | nil => intro p j _ _ h; simpa [Tr.F.size, Tr.F.len] using h
  | cons b n hb hn =>
    intro p j hp hj h
    have hle := hp.le
    simp only [Tr.F.size] at hle hj
    have l1 := Tr.F.len_le b
    have l2 := Tr.F.len_le n
    refine Ev_succ ?_
    simp only [spec_l01End.l0, Tr.F.len]
    refine evpos (by omega) (evpos (by omega) (evpos (by omega) ?_))
    rw [hp.deg]
    have e : wrap64 ((p : Int) + 1) = ((p + 1 : Nat) : Int) := by rw [Tr.wrap_id (by omega) (by omega)]; omega
    have e2 : wrap64 (wrap64 (((1 + n.len + j : Nat) : Int) - 1) + (b.len : Int)) = ((b.len + (n.len + j) : Nat) : Int) := by
      rw [Tr.wrap_id (x := ((1 + n.len + j : Nat) : Int) - 1) (by omega) (by omega), Tr.wrap_id (by omega) (by omega)]; omega
    rw [e, e2]
    refine hb (p + 1) (n.len + j) hp.below (by omega) ?_
    refine hn (p + 1 + b.size) j hp.next (by omega) ?_
    rw [show p + 1 + b.size + n.size = p + (Tr.F.cons b n).size by simp only [Tr.F.size]; omega]
    exact h
theorem ev_l01End {d : List Int} (hd : d.length ≤ 1000) {p : Nat} {b n : Tr.F} (h : Tr.Pl d p (.cons b n)) : Ev (fun k => spec_l01End.f k d (p : Int)) ((p + 1 + b.size : Nat) : Int) := by
  unfold spec_l01End.f
  have := ev_l01End_l0 d hd ((p + 1 + b.size : Nat) : Int) (.cons b .nil) p 0 h.one (by have := h.le; simp only [Tr.F.size] at this ⊢; omega)
  simp only [Tr.F.len, Tr.F.size] at this
  refine this ?_
  refine Ev_succ ?_
  simp only [spec_l01End.l0]
  refine evneg (by omega) (evnow (by omega))
theorem ev_kidsOf_l0 (d : List Int) (hd : d.length ≤ 1000) : ∀ (g : Tr.F) (p i N : Nat) (out : List Int), Tr.Pl d p g → i + g.len = N → N ≤ 1000 → out.length ≤ i →
    Ev (fun k => impl_kidsOf.l0 k d out (p : Int) (N : Int) (i : Int)) (out ++ g.roots p) := by
  intro g
  induction g with
  | nil =>
    intro p i N out hp hi hN ho
    simp only [Tr.F.len] at hi
    refine Ev_succ ?_
    simp only [impl_kidsOf.l0]
    refine evneg (by omega) (evnow ?_)
    simp [Tr.F.roots]
  | cons b n hb hn =>
    intro p i N out hp hi hN ho
    simp only [Tr.F.len] at hi
    refine Ev_succ ?_
    simp only [impl_kidsOf.l0]
    refine evpos (by omega) (evpos (by omega) (Ev.bind (ev_endOf hd hp) ?_))
    have e : wrap64 ((i : Int) + 1) = ((i + 1 : Nat) : Int) := by rw [Tr.wrap_id (by omega) (by omega)]; omega
    rw [e]
    have := hn (p + 1 + b.size) (i + 1) N (out ++ [(p : Int)]) hp.next (by omega) hN (by simp; omega)
    simpa [Tr.F.roots] using this
theorem ev_kidsOf {d : List Int} (hd : d.length ≤ 1000) {p : Nat} {b n : Tr.F} (h : Tr.Pl d p (.cons b n)) : Ev (fun k => impl_kidsOf.f k d (p : Int)) (b.roots (p + 1)) := by
  have hle := h.le
  simp only [Tr.F.size] at hle
  have l1 := Tr.F.len_le b
  unfold impl_kidsOf.f
  refine evpos (by omega) (evpos (by omega) ?_)
  have e : wrap64 ((p : Int) + 1) = ((p + 1 : Nat) : Int) := by rw [Tr.wrap_id (by omega) (by omega)]; omega
  rw [h.deg, e]
  have := ev_kidsOf_l0 d hd b (p + 1) 0 b.len [] h.below (by omega) (by omega) (by simp)
  simpa using this
theorem ev_l01Children_l0 (d : List Int) (hd : d.length ≤ 1000) : ∀ (g : Tr.F) (p : Nat) (out : List Int), Tr.Pl d p g → out.length + g.len ≤ 1000 →
    Ev (fun k => spec_l01Children.l0 k out (p : Int) (g.len : Int) d) (out ++ g.roots p) := by
  intro g
  induction g with
  | nil =>
    intro p out hp ho
    refine Ev_succ ?_
    simp only [spec_l01Children.l0, Tr.F.len]
    refine evneg (by omega) (evnow ?_)
    simp [Tr.F.roots]
  | cons b n hb hn =>
    intro p out hp ho
    simp only [Tr.F.len] at ho
    refine Ev_succ ?_
    simp only [spec_l01Children.l0, Tr.F.len]
    refine evpos (by omega) (evpos (by omega) (Ev.bind (ev_l01End hd hp) ?_))
    have e : wrap64 (((1 + n.len : Nat) : Int) - 1) = (n.len : Int) := by rw [Tr.wrap_id (by omega) (by omega)]; omega
    rw [e]
    have := hn (p + 1 + b.size) (out ++ [(p : Int)]) hp.next (by simp; omega)
    simpa [Tr.F.roots] using this
theorem ev_l01Children {d : List Int} (hd : d.length ≤ 1000) {p : Nat} {b n : Tr.F} (h : Tr.Pl d p (.cons b n)) : Ev (fun k => spec_l01Children.f k d (p : Int)) (b.roots (p + 1)) := by
  have hle := h.le
  simp only [Tr.F.size] at hle
  have l1 := Tr.F.len_le b
  unfold spec_l01Children.f
  refine evpos (by omega) (evpos (by omega) ?_)
  have e : wrap64 ((p : Int) + 1) = ((p + 1 : Nat) : Int) := by rw [Tr.wrap_id (by omega) (by omega)]; omega
  rw [h.deg, e]
  have := ev_l01Children_l0 d hd b (p + 1) [] h.below (by simp; omega)
  simpa using this
theorem ev_areTrees_l0 : ∀ (l pre : List S24) (N : Int), N = ((pre ++ l).length : Int) → N ≤ 100000000 → Ev (fun k => impl_areTrees.l0 k (pre ++ l) N (pre.length : Int)) (l.all fun s => Tr.isT s.f0) := by
  intro l
  induction l with
  | nil =>
    intro pre N hN hb
    refine Ev_succ ?_
    simp only [impl_areTrees.l0]
    simp only [List.length_append, List.length_nil] at hN
    exact evneg (by omega) (evnow rfl)
  | cons s l ih =>
    intro pre N hN hb
    have hN' := hN
    simp only [List.length_append, List.length_cons] at hN
    refine Ev_succ ?_
    simp only [impl_areTrees.l0]
    have e : rd_T24 (pre ++ s :: l) (pre.length : Int) = s := by unfold rd_T24; simp [List.getD_eq_getElem?_getD]
    have e3 : wrap64 ((pre.length : Int) + 1) = ((pre ++ [s]).length : Int) := by rw [Tr.wrap_id (by omega) (by omega)]; simp
    refine evpos (by omega) (evpos (by omega) (evpos (by simp; omega) ?_))
    rw [e, e3]
    refine Ev.bind (ev_IsTree s.f0) ?_
    cases h : Tr.isT s.f0 with
    | true =>
      refine evpos rfl ?_
      have := ih (pre ++ [s]) N (by rw [hN']; simp) hb
      simpa [h] using this
    | false => exact evneg (by simp) (evnow (by simp [h]))
theorem ev_areTrees (l : List S24) (h : l.length ≤ 100000000) : Ev (fun k => impl_areTrees.f k l) (l.all fun s => Tr.isT s.f0) := by
  unfold impl_areTrees.f
  exact ev_areTrees_l0 l [] l.length (by simp) (by omega)
theorem deg_range {d : List Int} {t : Tr.F} (h : Tr.Tree d t) {v : Nat} (hv : v < t.size) : 0 ≤ rd d (v : Int) ∧ rd d (v : Int) ≤ 24 := by
  have h1 := h.deg hv
  have h2 := h.fits hv
  have h3 := Tr.F.len_le (t.sub v)
  have h4 := h.few
  omega
def takeOutL (d : List Int) (t : Tr.F) (v : Nat) : List Int := (d.take v ++ d.drop (v + 1)).set (t.par 0 (-1) v).toNat (rd d (t.par 0 (-1) v) + rd d (v : Int) - 1)
theorem rd_take {d : List Int} {v p : Nat} (h : p < v) (hv : v ≤ d.length) : rd (d.take v) (p : Int) = rd d (p : Int) := by
  have e : rd d (p : Int) = rd (d.take v ++ d.drop v) (p : Int) := by rw [List.take_append_drop]
  rw [e, Tr.rd_left _ _ _ (by omega) (by simp; omega)]
def putAt (t : Tr.F) (p : Nat) (i : Int) : Int := if i < ((t.sub p).len : Int) then rd ((t.sub p).roots (p + 1)) i else ((p + 1 + (t.sub p).size : Nat) : Int)
theorem putAt_range {d : List Int} {t : Tr.F} (h : Tr.Tree d t) {p : Nat} (hp : p < t.size) {i : Int} (h0 : 0 ≤ i) : ∃ a : Nat, putAt t p i = (a : Int) ∧ p + 1 ≤ a ∧ a ≤ t.size := by
  have hf := h.fits hp
  unfold putAt
  by_cases hi : i < ((t.sub p).len : Int)
  · rw [if_pos hi]
    have hl := Tr.F.roots_len (t.sub p) (p + 1)
    have hm := Tr.rd_mem (l := (t.sub p).roots (p + 1)) h0 (by omega)
    have hr := Tr.F.roots_range _ _ _ hm
    obtain ⟨a, ha⟩ := Int.eq_ofNat_of_zero_le (show 0 ≤ rd ((t.sub p).roots (p + 1)) i by omega)
    exact ⟨a, ha, by omega, by omega⟩
  · rw [if_neg hi]
    exact ⟨_, rfl, by omega, by omega⟩
def putInL (d : List Int) (p a : Nat) (k : Int) : List Int := (d.set p (rd d (p : Int) + 1 - k)).take a ++ [k] ++ (d.set p (rd d (p : Int) + 1 - k)).drop a
theorem putInL_eq {d : List Int} {p a : Nat} (k : Int) (hp : p < a) (ha : a ≤ d.length) : (d.take a ++ [k] ++ d.drop a).set p (rd d (p : Int) + 1 - k) = putInL d p a k := by
  unfold putInL
  rw [List.take_set, List.drop_set_of_lt (by omega), List.append_assoc, List.set_append_left _ _ (by simp; omega), List.append_assoc]
theorem putInL_len {d : List Int} {p a : Nat} {k : Int} (ha : a ≤ d.length) : (putInL d p a k).length = d.length + 1 := by
  unfold putInL; simp; omega
theorem ev_l01Post_l0 {d : List Int} (hd : d.length ≤ 1000) : ∀ (g : Tr.F) (q : Nat) (x : Int) (out pre : List Int), Tr.Pl d q g → pre.length + g.len ≤ 1000 → out.length + g.size ≤ 100000 →
    Ev (fun k => spec_l01Post.l0 k x out (pre ++ g.roots q) (pre.length : Int) d) (out ++ g.posts q ++ [x]) := by
  intro g
  induction g with
  | nil =>
    intro q x out pre hq hp ho
    refine Ev_succ ?_
    simp only [spec_l01Post.l0, Tr.F.roots, List.append_nil]
    refine evneg (by omega) (evpos (by omega) (evnow ?_))
    simp [Tr.F.posts]
  | cons b n hb hn =>
    intro q x out pre hq hp ho
    have hql := hq.le
    simp only [Tr.F.size, Tr.F.len] at hql hp ho
    have hr := Tr.F.roots_len n (q + 1 + b.size)
    have hr2 := Tr.F.roots_len (.cons b n) q
    simp only [Tr.F.len] at hr2
    have hlb := Tr.F.len_le b
    refine Ev_succ ?_
    simp only [spec_l01Post.l0]
    have hki : rd (pre ++ (Tr.F.cons b n).roots q) (pre.length : Int) = (q : Int) := by rw [Tr.rd_app0]; exact Tr.rd_cons0 _ _
    have hself : Ev (fun k => spec_l01Post.f k d (q : Int)) (b.posts (q + 1) ++ [(q : Int)]) := by
      refine Ev_succ ?_
      simp only [spec_l01Post.f]
      refine Ev.bind (ev_l01Children hd hq) ?_
      have := hb (q + 1) (q : Int) [] [] hq.below (by simp; omega) (by simp; omega)
      simpa using this
    rw [hki]
    refine evpos (by simp only [List.length_append]; omega) (evpos (by omega) (Ev.bind hself ?_))
    have e1 : wrap64 ((pre.length : Int) + 1) = ((pre ++ [(q : Int)]).length : Int) := by rw [Tr.wrap_succ (by omega)]; simp
    have hpl := Tr.F.posts_len b (q + 1)
    refine evpos (by simp only [List.length_append, List.length_singleton]; omega) ?_
    rw [e1]
    have h2 := hn (q + 1 + b.size) x (out ++ (b.posts (q + 1) ++ [(q : Int)])) (pre ++ [(q : Int)]) hq.next (by simp; omega) (by simp only [List.length_append, List.length_singleton]; omega)
    have e2 : pre ++ [(q : Int)] ++ n.roots (q + 1 + b.size) = pre ++ (Tr.F.cons b n).roots q := by simp [Tr.F.roots]
    have e3 : out ++ (b.posts (q + 1) ++ [(q : Int)]) ++ n.posts (q + 1 + b.size) ++ [x] = out ++ (Tr.F.cons b n).posts q ++ [x] := by simp [Tr.F.posts]
    rw [e2, e3] at h2
    exact h2
theorem ev_l01Post {d : List Int} (hd : d.length ≤ 1000) {p : Nat} {b n : Tr.F} (h : Tr.Pl d p (.cons b n)) : Ev (fun k => spec_l01Post.f k d (p : Int)) (b.posts (p + 1) ++ [(p : Int)]) := by
  have hl := h.le
  simp only [Tr.F.size] at hl
  have hlb := Tr.F.len_le b
  refine Ev_succ ?_
  simp only [spec_l01Post.f]
  refine Ev.bind (ev_l01Children hd h) ?_
  have := ev_l01Post_l0 hd b (p + 1) (p : Int) [] [] h.below (by simp; omega) (by simp; omega)
  simpa using this
theorem posts_at : ∀ (g : Tr.F) (d : List Int) (p o : Nat), Tr.Pl d p g → ∀ j, j < g.size → ∃ (v : Nat) (b n : Tr.F), rd (g.posts p) (j : Int) = (v : Int) ∧ Tr.Pl d v (.cons b n) ∧ rd (g.firsts o) (j : Int) = ((o + j - b.size : Nat) : Int) ∧ b.size ≤ o + j := by
  intro g
  induction g with
  | nil => intro d p o _ j hj; simp [Tr.F.size] at hj
  | cons b n hb hn =>
    intro d p o hp j hj
    simp only [Tr.F.size] at hj
    have l1 := Tr.F.posts_len b (p + 1)
    have l2 := Tr.F.firsts_len b o
    simp only [Tr.F.posts, Tr.F.firsts]
    by_cases h1 : j < b.size
    · obtain ⟨v, b', n', e1, e2, e3, e4⟩ := hb d (p + 1) o hp.below j h1
      exact ⟨v, b', n', by rw [Tr.rd_left _ _ _ (by omega) (by omega), e1], e2, by rw [Tr.rd_left _ _ _ (by omega) (by omega), e3], e4⟩
    · by_cases h2 : j = b.size
      · subst h2
        refine ⟨p, b, n, ?_, hp, ?_, by omega⟩
        · have : ((b.size : Nat) : Int) = ((b.posts (p + 1)).length : Int) := by rw [l1]
          rw [this, Tr.rd_app0]; exact Tr.rd_cons0 _ _
        · have : ((b.size : Nat) : Int) = ((b.firsts o).length : Int) := by rw [l2]
          rw [this, Tr.rd_app0, Tr.rd_cons0]; congr 1; omega
      · obtain ⟨v, b', n', e1, e2, e3, e4⟩ := hn d (p + 1 + b.size) (o + 1 + b.size) hp.next (j - b.size - 1) (by omega)
        have r1 : (j : Int) = (((b.posts (p + 1) ++ [(p : Int)]).length + (j - b.size - 1) : Nat) : Int) := by simp; omega
        have r2 : (j : Int) = (((b.firsts o ++ [(o : Int)]).length + (j - b.size - 1) : Nat) : Int) := by simp; omega
        refine ⟨v, b', n', ?_, e2, ?_, by omega⟩
        · rw [show b.posts (p + 1) ++ (p : Int) :: n.posts (p + 1 + b.size) = (b.posts (p + 1) ++ [(p : Int)]) ++ n.posts (p + 1 + b.size) by simp, r1, Tr.rd_app, e1]
        · rw [show b.firsts o ++ (o : Int) :: n.firsts (o + 1 + b.size) = (b.firsts o ++ [(o : Int)]) ++ n.firsts (o + 1 + b.size) by simp, r2, Tr.rd_app, e3]; congr 1; omega
theorem ev_l07Firsts_l0 {d : List Int} {t : Tr.F} (h : Tr.Tree d t) : ∀ (m i : Nat), i + m = t.size → Ev (fun k => spec_l07Firsts.l0 k (t.posts 0) ((t.firsts 0).take i) (i : Int) d) (t.firsts 0) := by
  intro m
  have hf := h.few
  have l1 := Tr.F.posts_len t 0
  have l2 := Tr.F.firsts_len t 0
  induction m with
  | zero =>
    intro i hi
    refine Ev_succ ?_
    simp only [spec_l07Firsts.l0]
    exact evneg (by omega) (evnow (List.take_of_length_le (by omega)))
  | succ m ih =>
    intro i hi
    refine Ev_succ ?_
    simp only [spec_l07Firsts.l0]
    obtain ⟨v, b, n, e1, e2, e3, e4⟩ := posts_at t d 0 0 h.pl i (by omega)
    have hvl := e2.le
    simp only [Tr.F.size] at hvl
    have hdl := h.le
    rw [e1, Tr.wrap_succ (by omega)]
    refine evpos (by omega) (evpos (by omega) (Ev.bind (ev_l01End (by omega) e2) (evpos (by simp; omega) ?_)))
    have e5 : wrap64 (((v + 1 + b.size : Nat) : Int) - (v : Int)) = ((1 + b.size : Nat) : Int) := by rw [Tr.wrap_id (by omega) (by omega)]; omega
    have e6 : wrap64 (((i + 1 : Nat) : Int) - ((1 + b.size : Nat) : Int)) = ((0 + i - b.size : Nat) : Int) := by rw [Tr.wrap_id (by omega) (by omega)]; omega
    have hil : i < (t.firsts 0).length := by omega
    have e7 : (t.firsts 0).take i ++ [((0 + i - b.size : Nat) : Int)] = (t.firsts 0).take (i + 1) := by
      rw [← e3, Tr.rd_getElem hil, List.take_succ_eq_append_getElem hil]
    rw [e5, e6, e7]
    exact ih (i + 1) (by omega)
theorem ev_l07Firsts {d : List Int} {t : Tr.F} (h : Tr.Tree d t) : Ev (fun k => spec_l07Firsts.f k d) (t.firsts 0) := by
  obtain ⟨b, hb⟩ := h.one
  have hp := h.pl
  have hle := h.le
  unfold spec_l07Firsts.f
  rw [hb] at hp
  have h1 := ev_l01Post (by omega) hp
  have e : b.posts (0 + 1) ++ [((0 : Nat) : Int)] = t.posts 0 := by rw [hb]; simp [Tr.F.posts]
  rw [e] at h1
  refine Ev.bind h1 ?_
  exact ev_l07Firsts_l0 h t.size 0 (by omega)
theorem ev_l07Common {d e : List Int} {t u : Tr.F} (h : Tr.Tree d t) (g : Tr.Tree e u) : Ev (fun k => spec_l07Common.f k d e) ((Tr.F.pc t.mir u.mir : Nat) : Int) := by
  obtain ⟨k1, h1⟩ := ev_l07Firsts h
  obtain ⟨k2, h2⟩ := ev_l07Firsts g
  refine ⟨max k1 k2, fun k hk => ?_⟩
  show spec_l07Common.f k d e = _
  unfold spec_l07Common.f
  rw [h.dec, g.dec, if_pos ⟨h.isT, g.isT, h1 k (by omega), h2 k (by omega)⟩]
theorem ev_each {β : Type} (n : Nat) (g : Nat → Nat → Option β) (r : Nat → β) (h : ∀ v, v < n → Ev (fun k => g v k) (r v)) : ∃ K, ∀ k, K ≤ k → ∀ v, v < n → g v k = some (r v) := by
  induction n with
  | zero => exact ⟨0, fun _ _ v hv => by omega⟩
  | succ n ih =>
    obtain ⟨K, hK⟩ := ih (fun v hv => h v (by omega))
    obtain ⟨K2, hK2⟩ := h n (by omega)
    refine ⟨max K K2, fun k hk v hv => ?_⟩
    by_cases e : v = n
    · subst e; exact hK2 k (by omega)
    · exact hK k (by omega) v (by omega)
theorem ev_kids_all {d : List Int} {t : Tr.F} (h : Tr.Tree d t) : ∃ K, ∀ k, K ≤ k → ∀ v, v < d.length → impl_kidsOf.f k d ((v : Nat) : Int) = some ((t.sub v).roots (v + 1)) :=
  ev_each d.length (fun v k => impl_kidsOf.f k d ((v : Nat) : Int)) (fun v => (t.sub v).roots (v + 1)) (fun v hv => by
    obtain ⟨n, hn⟩ := h.node (v := v) (by rw [← h.len]; exact hv)
    exact ev_kidsOf (by have := h.le; omega) hn)
theorem ev_inCommon {d e : List Int} {t u : Tr.F} (h : Tr.Tree d t) (g : Tr.Tree e u) : Ev (fun k => impl_inCommon.f k d e) ((Tr.F.pc t.mir u.mir : Nat) : Int) := by
  obtain ⟨k1, h1⟩ := ev_kids_all h
  obtain ⟨k2, h2⟩ := ev_kids_all g
  refine ⟨max k1 k2, fun k hk => ?_⟩
  show impl_inCommon.f k d e = _
  unfold impl_inCommon.f
  rw [h.dec, g.dec, if_pos ⟨h.isT, g.isT, h1 k (by omega), h2 k (by omega)⟩]
theorem ev_areTwo (d e : List Int) : Ev (fun k => impl_areTrees.f k ([(⟨d⟩ : S24), (⟨e⟩ : S24)] : List S24)) (Tr.isT d && Tr.isT e) := by
  have := ev_areTrees [(⟨d⟩ : S24), (⟨e⟩ : S24)] (by simp)
  simpa using this
theorem ev_EditDistance (d e : List Int) : ∃ r : Int × Int, Ev (fun k => spec_EditDistance.f k d e) r ∧ Ev (fun k => impl_EditDistance.f k d e) r := by
  unfold spec_EditDistance.f impl_EditDistance.f
  rcases Tr.isT_cases d with h | ⟨t, h⟩
  · exact ⟨(0, 1), Ev.bind (ev_l01Is d) (evneg (by simp [h]) (Ev_succ (by simp only [spec_EditDistance.j0]; exact evpos (by simp) (Ev.now _)))), Ev.bind (ev_areTwo d e) (evneg (by simp [h]) (Ev.now _))⟩
  rcases Tr.isT_cases e with g | ⟨u, g⟩
  · exact ⟨(0, 1), Ev.bind (ev_l01Is d) (evpos h.isT (Ev.bind (ev_l01Is e) (Ev_succ (by simp only [spec_EditDistance.j0]; exact evpos (by simp [g]) (Ev.now _))))), Ev.bind (ev_areTwo d e) (evneg (by simp [g]) (Ev.now _))⟩
  refine ⟨(_, 0), Ev.bind (ev_l01Is d) (evpos h.isT (Ev.bind (ev_l01Is e) (Ev_succ (by simp only [spec_EditDistance.j0]; exact evneg (by simp [g.isT]) (by rw [l01N_eq, l01N_eq]; exact evsome (evsome (Ev.bind (ev_l07Common h g) (Ev.now _)))))))), Ev.bind (ev_areTwo d e) (evpos (by simp [h.isT, g.isT]) (Ev.bind (by unfold impl_editDistance.f; exact Ev.bind (ev_inCommon h g) (Ev.now _)) (Ev.now _)))⟩
theorem pure_FnExactEditDistance (l0 : List Int) (l1 : List Int) (hl0 : l0.length ≤ maxLen) (_ : ∀ x ∈ l0, (Lit.int .i64 x).wf = true) (hl1 : l1.length ≤ maxLen) (_ : ∀ x ∈ l1, (Lit.int .i64 x).wf = true) : ∃ k, laws_FnExactEditDistance.f k l0 l1 = some true := by
  unfold maxLen at hl0
  unfold maxLen at hl1
  refine Ev.rounds ?_
  unfold laws_FnExactEditDistance.f
  rw [szTree_eq l0 (1048576) (by omega) (by omega) (by omega)]
  refine evsome ?_
  by_cases hs0 : (1048576 : Int) - l0.length < 0
  · rw [if_pos hs0]; exact evpos (by omega) (Ev.now _)
  rw [if_neg hs0]
  refine evneg hs0 ?_
  rw [szTree_eq l1 (1048576 - l0.length) (by omega) (by omega) (by omega)]
  refine evsome ?_
  by_cases hs1 : (1048576 - l0.length : Int) - l1.length < 0
  · rw [if_pos hs1]; exact evpos (by omega) (Ev.now _)
  rw [if_neg hs1]
  refine evneg hs1 ?_
  obtain ⟨r, hq, hi⟩ := ev_EditDistance l0 l1
  repeat first
    | exact Ev.now _
    | refine Ev.bind hq ?_
    | refine Ev.bind hi ?_
    | refine Ev.bind (ev_toTree l0 (by omega)) ?_
    | refine Ev.bind (ev_eqTree l0 l0 (by omega) (by omega)) ?_
    | refine Ev.bind (ev_toTree l1 (by omega)) ?_
    | refine Ev.bind (ev_eqTree l1 l1 (by omega) (by omega)) ?_
    | (refine evpos ?_ ?_; first | rfl | (simp <;> fail))
    | (refine evneg ?_ ?_; first | (simp <;> fail) | (simp <;> omega))
end Go.Proofs.Yteangdgmokkjbaa.QFnExactEditDistance
