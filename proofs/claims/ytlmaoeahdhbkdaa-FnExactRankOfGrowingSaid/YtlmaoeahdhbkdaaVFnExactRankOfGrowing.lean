import Derived.Test.YtlmaoeahdhbkdaaQFnExactRankOfGrowingx
import Derived.Test.YtlmaoeahdhbkdaaTr
import Derived.Test.YtlmaoeahdhbkdaaNd
import Derived.Test.YtlmaoeahdhbkdaaGr
import Derived.Test.YtlmaoeahdhbkdaaIx
import Derived.Test.YtlmaoeahdhbkdaaOd
import Derived.Test.YtlmaoeahdhbkdaaCt
import Derived.Test.YtlmaoeahdhbkdaaNx
import Derived.Test.YtlmaoeahdhbkdaaRk
namespace Go.Proofs.Ytlmaoeahdhbkdaa.QFnExactRankOfGrowing
open Go.RowKit Go.Proofs.YtlmaoeahdhbkdaaW.PrintWords Go.Proofs.YtlmaoeahdhbkdaaW.PrintLast Go.Proofs.YtlmaoeahdhbkdaaW.PrintMore Go.Proofs.Ytlmaoeahdhbkdaa
set_option linter.unusedVariables false
set_option linter.unusedSimpArgs false
theorem Ev_succ {α : Type} {g : Nat → Option α} {r : α} (h : Ev (fun k => g (k + 1)) r) : Ev g r := Ev.step (fun _ => rfl) h
theorem evpos {α : Type} {c : Prop} [Decidable c] {f g : Nat → Option α} {r : α} (h : c) (k : Ev f r) : Ev (fun n => if c then f n else g n) r := by
  simp only [if_pos h]; exact k
theorem evneg {α : Type} {c : Prop} [Decidable c] {f g : Nat → Option α} {r : α} (h : ¬ c) (k : Ev g r) : Ev (fun n => if c then f n else g n) r := by
  simp only [if_neg h]; exact k
theorem evsome {α β : Type} {a : α} {f : Nat → α → Option β} {r : β} (k : Ev (fun n => f n a) r) : Ev (fun n => (some a).bind (f n)) r := k
theorem evnow {α : Type} {a r : α} (h : a = r) : Ev (fun _ => some a) r := by subst h; exact Ev.now _
theorem ev_eq_l0 (xs ys : List Int) (hl : xs.length = ys.length) (hb : xs.length ≤ 1152921504606846976) : ∀ (n i : Nat), i + n = xs.length →
    Ev (fun k => laws_eqInt64S.l0 k xs ys (i : Nat)) (decide (xs.drop i = ys.drop i)) := by
  intro n
  induction n with
  | zero =>
    intro i hi
    refine Ev_succ ?_
    simp only [laws_eqInt64S.l0]
    refine evneg (by omega) (evnow ?_)
    rw [List.drop_of_length_le (by omega), List.drop_of_length_le (by omega)]; rfl
  | succ n ih =>
    intro i hi
    refine Ev_succ ?_
    simp only [laws_eqInt64S.l0]
    refine evpos (by omega) (evpos (by omega) (evpos (by omega) ?_))
    rw [Tr.rd_getElem (by omega : i < xs.length), Tr.rd_getElem (by omega : i < ys.length)]
    have e : wrap64 ((i : Int) + 1) = ((i + 1 : Nat) : Int) := by rw [Tr.wrap_id (by omega) (by omega)]; omega
    rw [e]
    have e3 : (xs.drop i = ys.drop i) = (xs[i] = ys[i] ∧ xs.drop (i + 1) = ys.drop (i + 1)) := by
      rw [List.drop_eq_getElem_cons (by omega : i < xs.length), List.drop_eq_getElem_cons (by omega : i < ys.length)]
      exact List.cons.injEq _ _ _ _
    have e4 : decide (xs.drop i = ys.drop i) = decide (xs[i] = ys[i] ∧ xs.drop (i + 1) = ys.drop (i + 1)) := by simp only [e3]
    rw [e4]
    by_cases h : xs[i] = ys[i]
    · refine evpos h ?_
      have := ih (i + 1) (by omega)
      rw [show decide (xs[i] = ys[i] ∧ xs.drop (i + 1) = ys.drop (i + 1)) = decide (xs.drop (i + 1) = ys.drop (i + 1)) by simp only [h, true_and]]
      exact this
    · refine evneg h (evnow ?_)
      simp only [h, false_and, decide_false]
theorem ev_eqInt64S (xs ys : List Int) (hb : xs.length ≤ 1152921504606846976) (hc : ys.length ≤ 1152921504606846976) : Ev (fun k => laws_eqInt64S.f k xs ys) (decide (xs = ys)) := by
  unfold laws_eqInt64S.f
  by_cases h : xs.length = ys.length
  · refine evpos (by omega) ?_
    have := ev_eq_l0 xs ys h hb xs.length 0 (by omega)
    simpa using this
  · refine evneg (by omega) (evnow ?_)
    rw [eq_comm, decide_eq_false_iff_not]
    intro e; exact h (by rw [e])
theorem ev_eqTree (xs ys : List Int) (hb : xs.length ≤ 1152921504606846976) (hc : ys.length ≤ 1152921504606846976) : Ev (fun k => laws_eqTree.f k xs ys) (decide (xs = ys)) := by
  unfold laws_eqTree.f
  refine Ev.bind (ev_eqInt64S xs ys hb hc) ?_
  by_cases h : xs = ys
  · rw [decide_eq_true h]; exact evpos rfl (Ev.now _)
  · rw [decide_eq_false h]; exact evneg (by simp) (Ev.now _)
theorem szInt64S_eq (xs : List Int) (a : Int) (h0 : 0 ≤ a) (h1 : a ≤ 1048576) (hb : xs.length ≤ 9223372036854775807) : laws_szInt64S.f xs a = some (if a - xs.length < 0 then -1 else a - xs.length) := by
  unfold laws_szInt64S.f
  rw [Tr.wrap_id (by omega) (by omega)]
  split <;> rfl
theorem szTree_eq (xs : List Int) (a : Int) (h0 : 0 ≤ a) (h1 : a ≤ 1048576) (hb : xs.length ≤ 9223372036854775807) : laws_szTree.f xs a = some (if a - xs.length < 0 then -1 else a - xs.length) := by
  unfold laws_szTree.f
  rw [szInt64S_eq xs a h0 h1 hb]
  simp only [Option.bind_some]
  by_cases h : a - xs.length < 0
  · simp only [if_pos h]; rfl
  · simp only [if_neg h]
theorem ev_to_l0 (xs : List Int) (hb : xs.length ≤ 35184372088832) : ∀ (n i : Nat) (ys : List Int), i + n = xs.length → ys.length = xs.length → ys.take i = xs.take i →
    Ev (fun k => laws_toInt64S.l0 k xs ys (i : Nat)) xs := by
  intro n
  induction n with
  | zero =>
    intro i ys hi hy ht
    refine Ev_succ ?_
    simp only [laws_toInt64S.l0]
    refine evneg (by omega) (evnow ?_)
    rwa [List.take_of_length_le (by omega), List.take_of_length_le (by omega)] at ht
  | succ n ih =>
    intro i ys hi hy ht
    refine Ev_succ ?_
    simp only [laws_toInt64S.l0]
    refine evpos (by omega) (evpos (by omega) (evpos (by omega) ?_))
    have e : wrap64 ((i : Int) + 1) = ((i + 1 : Nat) : Int) := by rw [Tr.wrap_id (by omega) (by omega)]; omega
    rw [e, Tr.rd_getElem (by omega : i < xs.length), Int.toNat_natCast]
    refine ih (i + 1) _ (by omega) (by simp [hy]) ?_
    rw [List.take_succ_eq_append_getElem (by simp; omega), List.take_succ_eq_append_getElem (by omega)]
    simp [List.take_set_of_le, ht]
theorem ev_toInt64S (xs : List Int) (hb : xs.length ≤ 35184372088832) : Ev (fun k => laws_toInt64S.f k xs) xs := by
  unfold laws_toInt64S.f
  refine evpos (by omega) (evpos (by omega) ?_)
  have := ev_to_l0 xs hb xs.length 0 (List.replicate xs.length 0) (by omega) (by simp) (by simp)
  simpa using this
theorem ev_toTree (xs : List Int) (hb : xs.length ≤ 35184372088832) : Ev (fun k => laws_toTree.f k xs) xs := by
  unfold laws_toTree.f
  exact Ev.bind (ev_toInt64S xs hb) (Ev.now _)
/-- The numbers m, m + 1, .. -/
def up (m : Int) : Nat → List Int
  | 0 => []
  | n + 1 => m :: up (m + 1) n
theorem up_len (n : Nat) : ∀ m, (up m n).length = n := by
  induction n with
  | zero => intro m; rfl
  | succ n ih => intro m; simp [up, ih]
theorem up_get (n : Nat) : ∀ (m : Int) (i : Nat) (h : i < (up m n).length), (up m n)[i] = m + i := by
  induction n with
  | zero => intro m i h; simp [up] at h
  | succ n ih =>
    intro m i h
    cases i with
    | zero => simp [up]
    | succ i => simp only [up, List.getElem_cons_succ, ih]; omega
theorem ev_isTree_l0 : ∀ (l pre : List Int) (m : Int) (n : Int), n = ((pre ++ l).length : Int) → n ≤ 1000 → 0 ≤ m → m + 24 * l.length ≤ 100000 →
    Ev (fun k => impl_isTree.l0 k m (pre ++ l) n (pre.length : Int)) (Tr.ok l m) := by
  intro l
  induction l with
  | nil =>
    intro pre m n hn hb h0 h1
    refine Ev_succ ?_
    simp only [impl_isTree.l0]
    simp only [List.length_append, List.length_nil] at hn
    refine evneg (by omega) (evnow ?_)
    rfl
  | cons x l ih =>
    intro pre m n hn hb h0 h1
    refine Ev_succ ?_
    simp only [impl_isTree.l0]
    have hn' := hn
    simp only [List.length_append, List.length_cons] at hn h1 ⊢
    refine evpos (by omega) (evpos (by omega) (evpos (by simp; omega) ?_))
    have e : rd (pre ++ x :: l) (pre.length : Int) = x := by rw [Tr.rd_app0]; exact Tr.rd_cons0 _ _
    rw [e]
    by_cases hm : m = 0
    · refine evpos hm (evnow ?_); simp [Tr.ok, hm]
    · refine evneg hm ?_
      by_cases hx : x < 0
      · refine evpos hx (evnow ?_); simp [Tr.ok, hm, Int.not_le.mpr hx]
      · refine evneg hx ?_
        by_cases hy : x ≥ 24
        · refine evpos hy (evnow ?_); simp [Tr.ok, hm, Int.not_lt.mpr hy]
        · refine evneg hy ?_
          have e2 : wrap64 (m + wrap64 (x - 1)) = m - 1 + x := by rw [Tr.wrap_id (x := x - 1) (by omega) (by omega), Tr.wrap_id (by omega) (by omega)]; omega
          have e3 : wrap64 ((pre.length : Int) + 1) = ((pre ++ [x]).length : Int) := by rw [Tr.wrap_id (by omega) (by omega)]; simp
          rw [e2, e3]
          have := ih (pre ++ [x]) (m - 1 + x) n (by simp; omega) hb (by omega) (by omega)
          simp only [List.append_assoc, List.singleton_append] at this
          rw [show Tr.ok (x :: l) m = Tr.ok l (m - 1 + x) by
            have : (m != 0) = true := bne_iff_ne.mpr hm
            have h4 : decide (0 ≤ x) = true := decide_eq_true (by omega)
            have h5 : decide (x < 24) = true := decide_eq_true (by omega)
            simp only [Tr.ok, this, h4, h5, Bool.true_and]]
          exact this
theorem ev_isTree (d : List Int) : Ev (fun k => impl_isTree.f k d) (Tr.isT d) := by
  unfold impl_isTree.f
  by_cases h : (d.length : Int) < 1
  · refine evpos h (Ev_succ ?_)
    simp only [impl_isTree.j0]
    refine evpos (by simp) (evnow ?_)
    simp only [Tr.isT, decide_eq_false (by omega : ¬ 1 ≤ d.length), Bool.false_and]
  · refine evneg h (Ev_succ ?_)
    simp only [impl_isTree.j0]
    by_cases h2 : (d.length : Int) > 24
    · refine evpos (decide_eq_true h2) (evnow ?_)
      simp only [Tr.isT, decide_eq_false (by omega : ¬ d.length ≤ 24), Bool.false_and, Bool.and_false]
    · refine evneg (by simpa using h2) ?_
      have := ev_isTree_l0 d [] 1 d.length (by simp) (by omega) (by omega) (by omega)
      rw [show Tr.isT d = Tr.ok d 1 by simp only [Tr.isT, decide_eq_true (by omega : 1 ≤ d.length), decide_eq_true (by omega : d.length ≤ 24), Bool.true_and]]
      exact this
theorem ev_IsTree (d : List Int) : Ev (fun k => impl_IsTree.f k d) (Tr.isT d) := by
  unfold impl_IsTree.f
  exact Ev.bind (ev_isTree d) (Ev.now _)
theorem l01In_eq (a b c : Int) : spec_l01In.f a b c = some (decide (b ≤ a ∧ a ≤ c)) := by
  unfold spec_l01In.f
  by_cases h : a ≥ b
  · rw [if_pos h]; congr 1; simp; omega
  · rw [if_neg h]; congr 1; symm; simp; omega
theorem l01N_eq (d : List Int) : spec_l01N.f d = some (d.length : Int) := rfl
theorem ev_l01Is_l0 : ∀ (l pre : List Int) (m : Int), (pre ++ l).length ≤ 24 → 0 ≤ m → (m ≥ 1 ∨ True) → m + 25 * l.length ≤ 100000 →
    Ev (fun k => spec_l01Is.l0 k m (pre.length : Int) (pre ++ l)) (Tr.ok25 l m) := by
  intro l
  induction l with
  | nil =>
    intro pre m hb h0 _ h1
    refine Ev_succ ?_
    simp only [spec_l01Is.l0, List.length_append, List.length_nil]
    refine evneg (by omega) (evnow ?_)
    rfl
  | cons x l ih =>
    intro pre m hb h0 _ h1
    refine Ev_succ ?_
    simp only [spec_l01Is.l0]
    simp only [List.length_append, List.length_cons] at h1 hb ⊢
    refine evpos (by omega) ?_
    have e : rd (pre ++ x :: l) (pre.length : Int) = x := by rw [Tr.rd_app0]; exact Tr.rd_cons0 _ _
    rw [e, l01In_eq]
    by_cases hm : m = 0
    · refine evpos hm (evnow ?_); simp [Tr.ok25, hm]
    · refine evneg hm (evpos (by omega) (evsome ?_))
      by_cases hx : 0 ≤ x ∧ x ≤ 24
      · refine evpos (decide_eq_true hx) ?_
        have e2 : wrap64 (wrap64 (m - 1) + x) = m - 1 + x := by rw [Tr.wrap_id (x := m - 1) (by omega) (by omega), Tr.wrap_id (by omega) (by omega)]
        have e3 : wrap64 ((pre.length : Int) + 1) = ((pre ++ [x]).length : Int) := by rw [Tr.wrap_id (by omega) (by omega)]; simp
        rw [e2, e3]
        have := ih (pre ++ [x]) (m - 1 + x) (by simp; omega) (by omega) (.inr trivial) (by omega)
        simp only [List.append_assoc, List.singleton_append] at this
        rw [show Tr.ok25 (x :: l) m = Tr.ok25 l (m - 1 + x) by
          have : (m != 0) = true := bne_iff_ne.mpr hm
          simp only [Tr.ok25, this, decide_eq_true hx, Bool.true_and]]
        exact this
      · refine evneg (by simpa using hx) (evnow ?_)
        simp only [Tr.ok25, decide_eq_false hx, Bool.false_and, Bool.and_false]
theorem ev_l01Is (d : List Int) : Ev (fun k => spec_l01Is.f k d) (Tr.isT d) := by
  unfold spec_l01Is.f
  rw [l01N_eq]
  refine evsome ?_
  rw [l01In_eq]
  refine evsome ?_
  by_cases h : (1 : Int) ≤ (d.length : Int) ∧ (d.length : Int) ≤ 24
  · refine evpos (decide_eq_true h) ?_
    have := ev_l01Is_l0 d [] 1 (by simp; omega) (by omega) (.inr trivial) (by omega)
    rw [Tr.isT_eq25 d (by omega) (by omega)]
    exact this
  · refine evneg (by simpa using h) (evnow ?_)
    simp only [Tr.isT]
    by_cases h2 : 1 ≤ d.length
    · simp only [decide_eq_false (by omega : ¬ d.length ≤ 24), Bool.false_and, Bool.and_false]
    · simp only [decide_eq_false h2, Bool.false_and]
theorem ev_endOf_l0 (d : List Int) (hd : d.length ≤ 1000) (r : Int) : ∀ (g : Tr.F) (p j : Nat), Tr.Pl d p g → j + g.size ≤ 100000 →
    Ev (fun k => impl_endOf.l0 k d ((p + g.size : Nat) : Int) (j : Int)) r → Ev (fun k => impl_endOf.l0 k d (p : Int) ((g.len + j : Nat) : Int)) r := by
  intro g
  induction g with
  | nil => intro p j _ _ h; simpa [Tr.F.size, Tr.F.len] using h
  | cons b n hb hn =>
    intro p j hp hj h
    have hle := hp.le
    simp only [Tr.F.size] at hle hj
    have l1 := Tr.F.len_le b
    have l2 := Tr.F.len_le n
    refine Ev_succ ?_
    simp only [impl_endOf.l0, Tr.F.len]
    refine evpos (by omega) (evpos (by omega) (evpos (by omega) ?_))
    rw [hp.deg]
    have e : wrap64 ((p : Int) + 1) = ((p + 1 : Nat) : Int) := by rw [Tr.wrap_id (by omega) (by omega)]; omega
    have e2 : wrap64 (((1 + n.len + j : Nat) : Int) + wrap64 ((b.len : Int) - 1)) = ((b.len + (n.len + j) : Nat) : Int) := by
      rw [Tr.wrap_id (x := (b.len : Int) - 1) (by omega) (by omega), Tr.wrap_id (by omega) (by omega)]; omega
    rw [e, e2]
    refine hb (p + 1) (n.len + j) hp.below (by omega) ?_
    refine hn (p + 1 + b.size) j hp.next (by omega) ?_
    rw [show p + 1 + b.size + n.size = p + (Tr.F.cons b n).size by simp only [Tr.F.size]; omega]
    exact h
theorem ev_endOf {d : List Int} (hd : d.length ≤ 1000) {p : Nat} {b n : Tr.F} (h : Tr.Pl d p (.cons b n)) : Ev (fun k => impl_endOf.f k d (p : Int)) ((p + 1 + b.size : Nat) : Int) := by
  unfold impl_endOf.f
  have := ev_endOf_l0 d hd ((p + 1 + b.size : Nat) : Int) (.cons b .nil) p 0 h.one (by have := h.le; simp only [Tr.F.size] at this ⊢; omega)
  simp only [Tr.F.len, Tr.F.size] at this
  refine this ?_
  refine Ev_succ ?_
  simp only [impl_endOf.l0]
  refine evneg (by omega) (evnow (by omega))
theorem ev_l01End_l0 (d : List Int) (hd : d.length ≤ 1000) (r : Int) : ∀ (g : Tr.F) (p j : Nat), Tr.Pl d p g → j + g.size ≤ 100000 →
    Ev (fun k => spec_l01End.l0 k ((p + g.size : Nat) : Int) (j : Int) d) r → Ev (fun k => spec_l01End.l0 k (p : Int) ((g.len + j : Nat) : Int) d) r := by
  intro g
  induction g with
  | nil => intro p j _ _ h; simpa [Tr.F.size, Tr.F.len] using h
  | cons b n hb hn =>
    intro p j hp hj h
    have hle := hp.le
    simp only [Tr.F.size] at hle hj
    have l1 := Tr.F.len_le b
    have l2 := Tr.F.len_le n
    refine Ev_succ ?_
    simp only [spec_l01End.l0, Tr.F.len]
    refine evpos (by omega) (evpos (by omega) (evpos (by omega) ?_))
    rw [hp.deg]
    have e : wrap64 ((p : Int) + 1) = ((p + 1 : Nat) : Int) := by rw [Tr.wrap_id (by omega) (by omega)]; omega
    have e2 : wrap64 (wrap64 (((1 + n.len + j : Nat) : Int) - 1) + (b.len : Int)) = ((b.len + (n.len + j) : Nat) : Int) := by
      rw [Tr.wrap_id (x := ((1 + n.len + j : Nat) : Int) - 1) (by omega) (by omega), Tr.wrap_id (by omega) (by omega)]; omega
    rw [e, e2]
    refine hb (p + 1) (n.len + j) hp.below (by omega) ?_
    refine hn (p + 1 + b.size) j hp.next (by omega) ?_
    rw [show p + 1 + b.size + n.size = p + (Tr.F.cons b n).size by simp only [Tr.F.size]; omega]
    exact h
theorem ev_l01End {d : List Int} (hd : d.length ≤ 1000) {p : Nat} {b n : Tr.F} (h : Tr.Pl d p (.cons b n)) : Ev (fun k => spec_l01End.f k d (p : Int)) ((p + 1 + b.size : Nat) : Int) := by
  unfold spec_l01End.f
  have := ev_l01End_l0 d hd ((p + 1 + b.size : Nat) : Int) (.cons b .nil) p 0 h.one (by have := h.le; simp only [Tr.F.size] at this ⊢; omega)
  simp only [Tr.F.len, Tr.F.size] at this
  refine this ?_
  refine Ev_succ ?_
  simp only [spec_l01End.l0]
  refine evneg (by omega) (evnow (by omega))
theorem ev_kidsOf_l0 (d : List Int) (hd : d.length ≤ 1000) : ∀ (g : Tr.F) (p i N : Nat) (out : List Int), Tr.Pl d p g → i + g.len = N → N ≤ 1000 → out.length ≤ i →
    Ev (fun k => impl_kidsOf.l0 k d out (p : Int) (N : Int) (i : Int)) (out ++ g.roots p) := by
  intro g
  induction g with
  | nil =>
    intro p i N out hp hi hN ho
    simp only [Tr.F.len] at hi
    refine Ev_succ ?_
    simp only [impl_kidsOf.l0]
    refine evneg (by omega) (evnow ?_)
    simp [Tr.F.roots]
  | cons b n hb hn =>
    intro p i N out hp hi hN ho
    simp only [Tr.F.len] at hi
    refine Ev_succ ?_
    simp only [impl_kidsOf.l0]
    refine evpos (by omega) (evpos (by omega) (Ev.bind (ev_endOf hd hp) ?_))
    have e : wrap64 ((i : Int) + 1) = ((i + 1 : Nat) : Int) := by rw [Tr.wrap_id (by omega) (by omega)]; omega
    rw [e]
    have := hn (p + 1 + b.size) (i + 1) N (out ++ [(p : Int)]) hp.next (by omega) hN (by simp; omega)
    simpa [Tr.F.roots] using this
theorem ev_kidsOf {d : List Int} (hd : d.length ≤ 1000) {p : Nat} {b n : Tr.F} (h : Tr.Pl d p (.cons b n)) : Ev (fun k => impl_kidsOf.f k d (p : Int)) (b.roots (p + 1)) := by
  have hle := h.le
  simp only [Tr.F.size] at hle
  have l1 := Tr.F.len_le b
  unfold impl_kidsOf.f
  refine evpos (by omega) (evpos (by omega) ?_)
  have e : wrap64 ((p : Int) + 1) = ((p + 1 : Nat) : Int) := by rw [Tr.wrap_id (by omega) (by omega)]; omega
  rw [h.deg, e]
  have := ev_kidsOf_l0 d hd b (p + 1) 0 b.len [] h.below (by omega) (by omega) (by simp)
  simpa using this
theorem ev_l01Children_l0 (d : List Int) (hd : d.length ≤ 1000) : ∀ (g : Tr.F) (p : Nat) (out : List Int), Tr.Pl d p g → out.length + g.len ≤ 1000 →
    Ev (fun k => spec_l01Children.l0 k out (p : Int) (g.len : Int) d) (out ++ g.roots p) := by
  intro g
  induction g with
  | nil =>
    intro p out hp ho
    refine Ev_succ ?_
    simp only [spec_l01Children.l0, Tr.F.len]
    refine evneg (by omega) (evnow ?_)
    simp [Tr.F.roots]
  | cons b n hb hn =>
    intro p out hp ho
    simp only [Tr.F.len] at ho
    refine Ev_succ ?_
    simp only [spec_l01Children.l0, Tr.F.len]
    refine evpos (by omega) (evpos (by omega) (Ev.bind (ev_l01End hd hp) ?_))
    have e : wrap64 (((1 + n.len : Nat) : Int) - 1) = (n.len : Int) := by rw [Tr.wrap_id (by omega) (by omega)]; omega
    rw [e]
    have := hn (p + 1 + b.size) (out ++ [(p : Int)]) hp.next (by simp; omega)
    simpa [Tr.F.roots] using this
theorem ev_l01Children {d : List Int} (hd : d.length ≤ 1000) {p : Nat} {b n : Tr.F} (h : Tr.Pl d p (.cons b n)) : Ev (fun k => spec_l01Children.f k d (p : Int)) (b.roots (p + 1)) := by
  have hle := h.le
  simp only [Tr.F.size] at hle
  have l1 := Tr.F.len_le b
  unfold spec_l01Children.f
  refine evpos (by omega) (evpos (by omega) ?_)
  have e : wrap64 ((p : Int) + 1) = ((p + 1 : Nat) : Int) := by rw [Tr.wrap_id (by omega) (by omega)]; omega
  rw [h.deg, e]
  have := ev_l01Children_l0 d hd b (p + 1) [] h.below (by simp; omega)
  simpa using this
theorem l01Own_eq (l : List Int) (h : l.length ≤ 1000000) : spec_l01Own.f l = some l := by
  unfold spec_l01Own.f
  simp only [Option.bind_some]
  rw [if_pos (by simp; omega)]
  simp
theorem ev_l01Parents_l1 (d : List Int) (v : Nat) (hv : v ≤ 1000) (r : List Int) : ∀ (l pre out : List Int), (pre ++ l).length ≤ 1000 → (∀ c ∈ l, 0 ≤ c ∧ c < out.length) →
    Ev (fun k => spec_l01Parents.l0 k (Tr.setAll out l v) ((v + 1 : Nat) : Int) d) r → Ev (fun k => spec_l01Parents.l1 k out (v : Int) (pre ++ l) (pre.length : Int) d) r := by
  intro l
  induction l with
  | nil =>
    intro pre out hb _ h
    refine Ev_succ ?_
    simp only [spec_l01Parents.l1]
    refine evneg (by simp) ?_
    have e : wrap64 ((v : Int) + 1) = ((v + 1 : Nat) : Int) := by rw [Tr.wrap_id (by omega) (by omega)]; omega
    rw [e]; exact h
  | cons c l ih =>
    intro pre out hb hc h
    have h1 := hc c (List.mem_cons_self ..)
    refine Ev_succ ?_
    simp only [spec_l01Parents.l1]
    have e : rd (pre ++ c :: l) (pre.length : Int) = c := by rw [Tr.rd_app0]; exact Tr.rd_cons0 _ _
    have hb' := hb
    simp only [List.length_append, List.length_cons] at hb
    have e3 : wrap64 ((pre.length : Int) + 1) = ((pre ++ [c]).length : Int) := by rw [Tr.wrap_id (by omega) (by omega)]; simp
    refine evpos (by simp; omega) (evpos (by omega) (evpos (by rw [e]; omega) (evpos (by rw [e]; omega) ?_)))
    rw [e, e3]
    have := ih (pre ++ [c]) (out.set c.toNat v) (by simpa using hb') (fun x hx => by have := hc x (List.mem_cons_of_mem _ hx); simpa using this) h
    simpa using this
theorem ev_l01Parents_l0 {d : List Int} {t : Tr.F} (h : Tr.Tree d t) : ∀ (m v : Nat) (out : List Int), v + m = t.size → out.length = t.size → (∀ c : Nat, c < t.size → t.par 0 (-1) c < v → rd out (c : Int) = t.par 0 (-1) c) →
    Ev (fun k => spec_l01Parents.l0 k out (v : Int) d) (Tr.parentsL t) := by
  have hle := h.le
  have hlen := h.len
  intro m
  induction m with
  | zero =>
    intro v out hv ho hi
    refine Ev_succ ?_
    simp only [spec_l01Parents.l0, l01N_eq]
    refine evsome (evneg (by omega) (evnow ?_))
    refine Tr.each_eq ho (fun c hc => hi c hc ?_)
    have := (h.par_lt hc).2; omega
  | succ m ih =>
    intro v out hv ho hi
    refine Ev_succ ?_
    simp only [spec_l01Parents.l0, l01N_eq]
    obtain ⟨n, hp⟩ := h.node (v := v) (by omega)
    refine evsome (evpos (by omega) (Ev.bind (ev_l01Children (by omega) hp) ?_))
    have hk : ∀ c ∈ (t.sub v).roots (v + 1), 0 ≤ c ∧ c < out.length := fun c hc => by have := h.kid_range (v := v) (by omega) hc; omega
    refine ev_l01Parents_l1 d v (by omega) _ _ [] out ?_ hk ?_
    · have := Tr.F.len_le (t.sub v)
      have := h.fits (v := v) (by omega)
      rw [List.nil_append, Tr.F.roots_len]; omega
    · refine ih (v + 1) _ (by omega) (by rw [Tr.setAll_len]; exact ho) (fun c hc hpc => ?_)
      rw [Tr.setAll_rd v _ _ _ (fun x hx => (hk x hx).1) (by omega)]
      by_cases e : (c : Int) ∈ (t.sub v).roots (v + 1)
      · rw [if_pos e]; exact ((h.kids (by omega) hc).1 e).symm
      · rw [if_neg e]
        refine hi c hc ?_
        have : ¬ t.par 0 (-1) c = v := fun e' => e ((h.kids (by omega) hc).2 e')
        omega
theorem ev_l01Parents {d : List Int} {t : Tr.F} (h : Tr.Tree d t) : Ev (fun k => spec_l01Parents.f k d) (Tr.parentsL t) := by
  have hle := h.le
  have hlen := h.len
  have hpos := h.pos
  unfold spec_l01Parents.f
  rw [l01N_eq]
  refine evsome (evpos (by omega) (evpos (by omega) (evsome (evpos (by simp; omega) ?_))))
  refine ev_l01Parents_l0 h t.size 0 _ (by omega) (by simp; omega) (fun c hc hp => ?_)
  have e : c = 0 := by
    by_cases e : c = 0
    · exact e
    · have := h.par_pos (c := c) (by omega) hc; omega
  subst e
  rw [h.par_zero]
  have := Tr.rd_set (l := List.replicate (d.length : Int).toNat 0) (c := 0) (x := -1) (i := 0) (by simp; omega) (by omega)
  simpa using this
theorem ev_sizesOf_l0 {d : List Int} {t : Tr.F} (h : Tr.Tree d t) : ∀ (m v : Nat), v + m = t.size →
    Ev (fun k => impl_sizesOf.l0 k d (Tr.each v (fun v => ((1 + (t.sub v).size : Nat) : Int))) (t.size : Int) (v : Int)) (Tr.sizesL t) := by
  have hle := h.le
  have hlen := h.len
  intro m
  induction m with
  | zero =>
    intro v hv
    refine Ev_succ ?_
    simp only [impl_sizesOf.l0]
    refine evneg (by omega) (evnow ?_)
    have : v = t.size := by omega
    rw [this]; rfl
  | succ m ih =>
    intro v hv
    refine Ev_succ ?_
    simp only [impl_sizesOf.l0]
    obtain ⟨n, hp⟩ := h.node (v := v) (by omega)
    have hf := h.fits (v := v) (by omega)
    refine evpos (by omega) (Ev.bind (ev_endOf (by omega) hp) (evpos (by rw [Tr.each_len]; omega) ?_))
    have e : wrap64 ((v : Int) + 1) = ((v + 1 : Nat) : Int) := by rw [Tr.wrap_id (by omega) (by omega)]; omega
    have e2 : wrap64 (((v + 1 + (t.sub v).size : Nat) : Int) - v) = ((1 + (t.sub v).size : Nat) : Int) := by rw [Tr.wrap_id (by omega) (by omega)]; omega
    rw [e, e2]
    have := ih (v + 1) (by omega)
    rw [Tr.each_succ] at this
    exact this
theorem ev_sizesOf {d : List Int} {t : Tr.F} (h : Tr.Tree d t) : Ev (fun k => impl_sizesOf.f k d) (Tr.sizesL t) := by
  unfold impl_sizesOf.f
  have := ev_sizesOf_l0 h t.size 0 (by omega)
  rw [h.len]
  exact this
theorem ev_l09Next_l1 {d : List Int} {t : Tr.F} (h : Tr.Tree d t) (beg : List Int) (met : List Bool) (hm : met.length = t.size) (hmet : ∀ v : Nat, v < t.size → rdOf false met (v : Int) = decide ((v : Int) ∈ beg)) : ∀ (m v : Nat), v + m = t.size →
    Ev (fun k => spec_l09Next.l1 k (Tr.parentsL t) met (Tr.nxtTo t beg v) (v : Int) d) (Tr.nxt t beg) := by
  have hle := h.le
  have hlen := h.len
  have hpl : (Tr.parentsL t).length = t.size := Tr.each_len _ _
  intro m
  induction m with
  | zero =>
    intro v hv
    refine Ev_succ ?_
    simp only [spec_l09Next.l1, l01N_eq]
    refine evsome (evneg (by omega) (evnow ?_))
    have : v = t.size := by omega
    rw [this]; rfl
  | succ m ih =>
    intro v hv
    refine Ev_succ ?_
    simp only [spec_l09Next.l1, l01N_eq]
    have hl := Tr.nxtTo_len t beg v
    have e : wrap64 ((v : Int) + 1) = ((v + 1 : Nat) : Int) := by rw [Tr.wrap_id (by omega) (by omega)]; omega
    have hs := ih (v + 1) (by omega)
    rw [Tr.nxtTo_succ] at hs
    refine evsome (evpos (by omega) (evpos (by omega) (evpos (by omega) ?_)))
    rw [hmet v (by omega), e]
    by_cases h1 : (v : Int) ∈ beg
    · refine evpos (decide_eq_true h1) ?_
      rw [if_neg (by simp [Tr.canNext, h1])] at hs
      exact hs
    · refine evneg (by simpa using h1) ?_
      by_cases h2 : v = 0
      · refine evpos (by omega) (evpos (by omega) ?_)
        rw [if_pos (by simp [Tr.canNext, h1, h2]; subst h2; simpa using h1)] at hs
        exact hs
      · have hp := h.par_pos (c := v) (by omega) (by omega)
        have hr : rd (Tr.parentsL t) (v : Int) = t.par 0 (-1) v := Tr.each_rd (by omega)
        obtain ⟨q, hq⟩ : ∃ q : Nat, t.par 0 (-1) v = (q : Int) := ⟨(t.par 0 (-1) v).toNat, by omega⟩
        refine evneg (by omega) (evpos (by omega) (evpos (by rw [hr]; omega) (evpos (by rw [hr]; omega) ?_)))
        rw [hr, hq, hmet q (by omega)]
        by_cases h3 : (q : Int) ∈ beg
        · refine evpos (decide_eq_true h3) (evpos (by omega) ?_)
          rw [if_pos (by simp [Tr.canNext, h1, h2, hq, h3])] at hs
          exact hs
        · refine evneg (by simpa using h3) ?_
          rw [if_neg (by simp [Tr.canNext, h1, h2, hq, h3])] at hs
          exact hs
theorem ev_l09Next_l0 {d : List Int} {t : Tr.F} (h : Tr.Tree d t) : ∀ (l pre : List Int) (met : List Bool), (∀ c ∈ l, 0 ≤ c ∧ c < t.size) → (pre ++ l).length ≤ 1000 → met.length = t.size → (∀ v : Nat, v < t.size → rdOf false met (v : Int) = decide ((v : Int) ∈ pre)) →
    Ev (fun k => spec_l09Next.l0 k (pre ++ l) (Tr.parentsL t) met [] (pre.length : Int) d) (Tr.nxt t (pre ++ l)) := by
  intro l
  induction l with
  | nil =>
    intro pre met _ hb hm hmet
    refine Ev_succ ?_
    simp only [spec_l09Next.l0]
    refine evneg (by simp) ?_
    rw [List.append_nil]
    exact ev_l09Next_l1 h pre met hm hmet t.size 0 (by omega)
  | cons c l ih =>
    intro pre met hc hb hm hmet
    have h1 := hc c (List.mem_cons_self ..)
    refine Ev_succ ?_
    simp only [spec_l09Next.l0]
    have e : rd (pre ++ c :: l) (pre.length : Int) = c := by rw [Tr.rd_app0]; exact Tr.rd_cons0 _ _
    have hb' := hb
    simp only [List.length_append, List.length_cons] at hb
    have e3 : wrap64 ((pre.length : Int) + 1) = ((pre ++ [c]).length : Int) := by rw [Tr.wrap_id (by omega) (by omega)]; simp
    refine evpos (by simp; omega) (evpos (by omega) (evpos (by rw [e]; omega) (evpos (by rw [e]; omega) ?_)))
    rw [e, e3]
    have := ih (pre ++ [c]) (met.set c.toNat true) (fun x hx => hc x (List.mem_cons_of_mem _ hx)) (by simpa using hb') (by simpa using hm) (fun v hv => by
      rw [Tr.rdOf_set (by omega) h1.1, hmet v hv]
      by_cases e : c = v
      · rw [if_pos e]; simp [e]
      · rw [if_neg e]; congr 1; simp only [List.mem_append, List.mem_singleton, eq_iff_iff]; constructor
        · exact fun h => .inl h
        · rintro (h | h)
          · exact h
          · exact absurd h.symm e)
    simpa using this
theorem ev_l09Next {d : List Int} {t : Tr.F} (h : Tr.Tree d t) {beg : List Int} (hb : ∀ c ∈ beg, 0 ≤ c ∧ c < t.size) (hl : beg.length ≤ 1000) : Ev (fun k => spec_l09Next.f k d beg) (Tr.nxt t beg) := by
  have hle := h.le
  have hlen := h.len
  unfold spec_l09Next.f
  refine Ev.bind (ev_l01Parents h) ?_
  rw [l01N_eq]
  refine evsome (evpos (by omega) (evpos (by omega) ?_))
  have := ev_l09Next_l0 h beg [] (List.replicate d.length false) hb (by simpa using hl) (by simpa using hlen) (fun v hv => by rw [Tr.rdOf_rep]; simp)
  simpa using this
theorem ev_preorder_l0 (n : Nat) (hn : n ≤ 1000) : ∀ (m v : Nat), v + m = n → Ev (fun k => impl_preorder.l0 k (Tr.upto v) (n : Int) (v : Int)) (Tr.upto n) := by
  intro m
  induction m with
  | zero =>
    intro v hv
    refine Ev_succ ?_
    simp only [impl_preorder.l0]
    have : v = n := by omega
    rw [this]
    exact evneg (by omega) (Ev.now _)
  | succ m ih =>
    intro v hv
    refine Ev_succ ?_
    simp only [impl_preorder.l0]
    have hl : (Tr.upto v).length = v := Tr.each_len _ _
    have e : wrap64 ((v : Int) + 1) = ((v + 1 : Nat) : Int) := by rw [Tr.wrap_id (by omega) (by omega)]; omega
    refine evpos (by omega) (evpos (by omega) ?_)
    rw [e]
    have := ih (v + 1) (by omega)
    rw [Tr.upto, Tr.each_succ] at this
    exact this
theorem ev_preorder (d : List Int) (hd : d.length ≤ 1000) : Ev (fun k => impl_preorder.f k d) (Tr.upto d.length) := by
  unfold impl_preorder.f
  exact ev_preorder_l0 d.length hd d.length 0 (by omega)
theorem ev_parentsOf_l1 (d : List Int) (v : Nat) (hv : v ≤ 1000) (N : Int) (r : List Int) : ∀ (l pre out : List Int), (pre ++ l).length ≤ 1000 → (∀ c ∈ l, 0 ≤ c ∧ c < out.length) →
    Ev (fun k => impl_parentsOf.l0 k d (Tr.setAll out l v) N ((v + 1 : Nat) : Int)) r → Ev (fun k => impl_parentsOf.l1 k d out (v : Int) N (v : Int) (pre ++ l) ((pre ++ l).length : Int) (pre.length : Int)) r := by
  intro l
  induction l with
  | nil =>
    intro pre out hb _ h
    refine Ev_succ ?_
    simp only [impl_parentsOf.l1]
    refine evneg (by simp) ?_
    rw [Tr.wrap_succ (by omega)]; exact h
  | cons c l ih =>
    intro pre out hb hc h
    have h1 := hc c (List.mem_cons_self ..)
    refine Ev_succ ?_
    simp only [impl_parentsOf.l1]
    have e : rd (pre ++ c :: l) (pre.length : Int) = c := by rw [Tr.rd_app0]; exact Tr.rd_cons0 _ _
    have hb' := hb
    simp only [List.length_append, List.length_cons] at hb
    refine evpos (by simp; omega) (evpos (by omega) (evpos (by simp; omega) ?_))
    rw [e]
    clear e
    refine evpos h1.1 (evpos h1.2 ?_)
    rw [Tr.wrap_succ (by omega)]
    have := ih (pre ++ [c]) (out.set c.toNat v) (by simpa using hb') (fun x hx => by have := hc x (List.mem_cons_of_mem _ hx); simpa using this) h
    simpa using this
theorem ev_parentsOf_l0 {d : List Int} {t : Tr.F} (h : Tr.Tree d t) : ∀ (m v : Nat) (out : List Int), v + m = t.size → out.length = t.size → (∀ c : Nat, c < t.size → t.par 0 (-1) c < v → rd out (c : Int) = t.par 0 (-1) c) →
    Ev (fun k => impl_parentsOf.l0 k d out (t.size : Int) (v : Int)) (Tr.parentsL t) := by
  have hle := h.le
  have hlen := h.len
  intro m
  induction m with
  | zero =>
    intro v out hv ho hi
    refine Ev_succ ?_
    simp only [impl_parentsOf.l0]
    refine evneg (by omega) (evnow ?_)
    refine Tr.each_eq ho (fun c hc => hi c hc ?_)
    have := (h.par_lt hc).2; omega
  | succ m ih =>
    intro v out hv ho hi
    refine Ev_succ ?_
    simp only [impl_parentsOf.l0]
    obtain ⟨n, hp⟩ := h.node (v := v) (by omega)
    refine evpos (by omega) (Ev.bind (ev_kidsOf (by omega) hp) ?_)
    have hk : ∀ c ∈ (t.sub v).roots (v + 1), 0 ≤ c ∧ c < out.length := fun c hc => by have := h.kid_range (v := v) (by omega) hc; omega
    refine ev_parentsOf_l1 d v (by omega) _ _ _ [] out ?_ hk ?_
    · have := Tr.F.len_le (t.sub v)
      have := h.fits (v := v) (by omega)
      rw [List.nil_append, Tr.F.roots_len]; omega
    · refine ih (v + 1) _ (by omega) (by rw [Tr.setAll_len]; exact ho) (fun c hc hpc => ?_)
      rw [Tr.setAll_rd v _ _ _ (fun x hx => (hk x hx).1) (by omega)]
      by_cases e : (c : Int) ∈ (t.sub v).roots (v + 1)
      · rw [if_pos e]; exact ((h.kids (by omega) hc).1 e).symm
      · rw [if_neg e]
        refine hi c hc ?_
        have : ¬ t.par 0 (-1) c = v := fun e' => e ((h.kids (by omega) hc).2 e')
        omega
theorem ev_parentsOf {d : List Int} {t : Tr.F} (h : Tr.Tree d t) : Ev (fun k => impl_parentsOf.f k d) (Tr.parentsL t) := by
  have hle := h.le
  have hlen := h.len
  have hpos := h.pos
  unfold impl_parentsOf.f slices_Repeat.f
  rw [if_pos (by refine ⟨rfl, ?_, ?_⟩ <;> omega)]
  refine evsome ?_
  rw [hlen]
  refine ev_parentsOf_l0 h t.size 0 _ (by omega) (by simp) (fun c hc hp => ?_)
  have e : c = 0 := by
    by_cases e : c = 0
    · exact e
    · have := h.par_pos (c := c) (by omega) hc; omega
  subst e
  rw [h.par_zero]
  rw [Tr.rd_getElem (by simp; omega)]
  simp [rd]
theorem ev_Index_l0 (x : Int) : ∀ (l pre : List Int) (N : Int), N = ((pre ++ l).length : Int) → N ≤ 100000000 → Ev (fun k => slices_Index_int64_int64.l0 k (pre ++ l) x N (pre.length : Int)) (Tr.idx x l pre.length) := by
  intro l
  induction l with
  | nil =>
    intro pre N hN hb
    refine Ev_succ ?_
    simp only [slices_Index_int64_int64.l0]
    simp only [List.length_append, List.length_nil] at hN
    exact evneg (by omega) (evnow rfl)
  | cons y l ih =>
    intro pre N hN hb
    have hN' := hN
    simp only [List.length_append, List.length_cons] at hN
    refine Ev_succ ?_
    simp only [slices_Index_int64_int64.l0]
    rw [Tr.rd_app0, Tr.rd_cons0]
    refine evpos (by omega) (evpos (by omega) (evpos (by simp; omega) ?_))
    unfold Tr.idx
    by_cases h : x = y
    · rw [if_pos h]; exact evpos h (Ev.now _)
    · rw [if_neg h]
      refine evneg h ?_
      rw [Tr.wrap_succ (by omega)]
      have := ih (pre ++ [y]) N (by rw [hN']; simp) hb
      simpa using this
theorem ev_Index (l : List Int) (x : Int) (h : l.length ≤ 100000000) : Ev (fun k => slices_Index_int64_int64.f k l x) (Tr.idx x l 0) := by
  unfold slices_Index_int64_int64.f
  exact ev_Index_l0 x l [] l.length (by simp) (by omega)
theorem ev_Contains (l : List Int) (x : Int) (h : l.length ≤ 100000000) : Ev (fun k => slices_Contains_int64_int64.f k l x) (decide (x ∈ l)) := by
  unfold slices_Contains_int64_int64.f
  refine Ev.bind (ev_Index l x h) (evnow ?_)
  have := Tr.idx_mem x l 0
  by_cases hm : x ∈ l
  · rw [decide_eq_true hm, decide_eq_true (this.2 hm)]
  · rw [decide_eq_false hm, decide_eq_false (fun h => hm (this.1 h))]
theorem ev_nexts_l0 {d : List Int} {t : Tr.F} (h : Tr.Tree d t) (beg : List Int) (hb : beg.length ≤ 1000) : ∀ (m v : Nat), v + m = t.size →
    Ev (fun k => impl_nexts.l0 k beg (Tr.parentsL t) (Tr.nxtTo t beg v) (t.size : Int) (v : Int)) (Tr.nxt t beg) := by
  have hle := h.le
  have hlen := h.len
  have hpl : (Tr.parentsL t).length = t.size := Tr.each_len _ _
  intro m
  induction m with
  | zero =>
    intro v hv
    refine Ev_succ ?_
    simp only [impl_nexts.l0]
    refine evneg (by omega) (evnow ?_)
    have : v = t.size := by omega
    rw [this]; rfl
  | succ m ih =>
    intro v hv
    have hl := Tr.nxtTo_len t beg v
    have hs := ih (v + 1) (by omega)
    rw [Tr.nxtTo_succ] at hs
    refine Ev_succ ?_
    simp only [impl_nexts.l0]
    refine evpos (by omega) (Ev.bind (ev_Contains beg v (by omega)) ?_)
    rw [Tr.wrap_succ (by omega)]
    by_cases h1 : (v : Int) ∈ beg
    · refine evpos (decide_eq_true h1) ?_
      rw [if_neg (by simp [Tr.canNext, h1])] at hs
      exact hs
    · refine evneg (by simpa using h1) ?_
      by_cases h2 : v = 0
      · refine evpos (by omega) (evpos (by omega) ?_)
        rw [if_pos (by simp [Tr.canNext, h1, h2]; subst h2; simpa using h1)] at hs
        exact hs
      · have hr : rd (Tr.parentsL t) (v : Int) = t.par 0 (-1) v := Tr.each_rd (by omega)
        rw [hr]
        clear hr
        refine evneg (by omega) (evpos (by omega) (evpos (by omega) (Ev.bind (ev_Contains beg _ (by omega)) ?_)))
        by_cases h3 : t.par 0 (-1) v ∈ beg
        · refine evpos (decide_eq_true h3) (evpos (by omega) ?_)
          rw [if_pos (by simp [Tr.canNext, h1, h2, h3])] at hs
          exact hs
        · refine evneg (by simpa using h3) ?_
          rw [if_neg (by simp [Tr.canNext, h1, h2, h3])] at hs
          exact hs
theorem ev_nexts {d : List Int} {t : Tr.F} (h : Tr.Tree d t) (beg : List Int) (hb : beg.length ≤ 1000) : Ev (fun k => impl_nexts.f k d beg) (Tr.nxt t beg) := by
  unfold impl_nexts.f
  refine Ev.bind (ev_parentsOf h) ?_
  rw [h.len]
  exact ev_nexts_l0 h beg hb t.size 0 (by omega)
theorem ev_ways_l0 (szl : List Int) (f : Nat → Nat) : ∀ (l pre : List Nat) (N : Int), N = ((pre ++ l).length : Int) → (pre ++ l).length ≤ 20 → (∀ v ∈ pre ++ l, v < szl.length ∧ rd szl (v : Int) = (f v : Int) ∧ 0 < f v) → Tr.lprod ((pre ++ l).map f) ≤ Tr.fact (pre ++ l).length →
    Ev (fun k => impl_ways.l0 k szl (Tr.fact pre.length : Int) (Tr.lprod (pre.map f) : Int) ((pre ++ l).map (fun v : Nat => (v : Int))) N (pre.length : Int)) ((Tr.fact (pre ++ l).length / Tr.lprod ((pre ++ l).map f) : Nat) : Int) := by
  intro l
  induction l with
  | nil =>
    intro pre N hN hb hv hp
    rw [List.append_nil] at hN hb hv hp ⊢
    have hpos : 0 < Tr.lprod (pre.map f) := Tr.lprod_pos _ (fun x hx => by
      simp only [List.mem_map] at hx
      obtain ⟨v, hv', rfl⟩ := hx
      exact (hv v hv').2.2)
    have hfl := Tr.fact_le _ _ hb
    rw [show Tr.fact 20 = 2432902008176640000 by rfl] at hfl
    refine Ev_succ ?_
    simp only [impl_ways.l0]
    generalize Tr.fact pre.length = A at hp hfl ⊢
    generalize Tr.lprod (pre.map f) = B at hp hpos ⊢
    have hdl : A / B ≤ A := Nat.div_le_self _ _
    have e : Int.tdiv (A : Int) (B : Int) = ((A / B : Nat) : Int) := by rw [Int.tdiv_eq_ediv_of_nonneg (by omega)]; exact (Int.natCast_ediv _ _).symm
    rw [e]
    clear e
    generalize A / B = C at hdl ⊢
    exact evneg (by omega) (evneg (by omega) (evnow (Tr.wrap_id (by omega) (by omega))))
  | cons v l ih =>
    intro pre N hN hb hv hp
    obtain ⟨h1, h2, h3⟩ := hv v (by simp)
    have hb' := hb
    simp only [List.length_append, List.length_cons] at hb
    have hfl := Tr.fact_le (pre.length + 1) 20 (by omega)
    rw [show Tr.fact 20 = 2432902008176640000 by rfl] at hfl
    have hfl2 := Tr.fact_le (pre ++ v :: l).length 20 hb'
    rw [show Tr.fact 20 = 2432902008176640000 by rfl] at hfl2
    have hpp : Tr.lprod ((pre ++ [v]).map f) ≤ Tr.lprod ((pre ++ v :: l).map f) := by
      have e : pre ++ v :: l = (pre ++ [v]) ++ l := by simp
      have e0 : Tr.lprod ((pre ++ v :: l).map f) = Tr.lprod ((pre ++ [v]).map f) * Tr.lprod (l.map f) := by rw [e, List.map_append, Tr.lprod_app]
      rw [e0]
      refine Nat.le_mul_of_pos_right _ (Tr.lprod_pos (l.map f) (fun x hx => ?_))
      simp only [List.mem_map] at hx
      obtain ⟨u, hu, rfl⟩ := hx
      exact (hv u (by simp [hu])).2.2
    have e2 : Tr.lprod ((pre ++ [v]).map f) = Tr.lprod (pre.map f) * f v := by rw [List.map_append, Tr.lprod_app]; simp [Tr.lprod]
    have e3 : Tr.fact (pre ++ [v]).length = (pre.length + 1) * Tr.fact pre.length := by simp [Tr.fact]
    have := ih (pre ++ [v]) N (by rw [hN]; simp) (by simpa using hb') (by simpa using hv) (by simpa using hp)
    rw [e2, e3] at this
    have e4 : pre ++ [v] ++ l = pre ++ v :: l := by simp
    have e5 : (pre ++ [v]).length = pre.length + 1 := by simp
    rw [e4, e5] at this
    have hml : ((pre ++ v :: l).map (fun v : Nat => (v : Int))).length = pre.length + (l.length + 1) := by simp
    have e6 : rd ((pre ++ v :: l).map (fun v : Nat => (v : Int))) (pre.length : Int) = v := by rw [Tr.rd_getElem (by simp)]; simp
    rw [show Tr.fact (pre.length + 1) = (pre.length + 1) * Tr.fact pre.length from rfl] at hfl
    rw [e2] at hpp
    simp only [List.length_append, List.length_cons] at hN
    refine Ev_succ ?_
    simp only [impl_ways.l0]
    rw [e6, h2]
    clear e6 h2 e2 e3 e4 e5 ih
    generalize Tr.fact pre.length = A at hfl this ⊢
    generalize Tr.lprod (pre.map f) = B at hpp this ⊢
    generalize f v = s at hpp this h3 ⊢
    have q1 : (A : Int) * ((pre.length : Int) + 1) = (((pre.length + 1) * A : Nat) : Int) := by rw [Nat.mul_comm]; simp
    have q2 : (B : Int) * (s : Int) = ((B * s : Nat) : Int) := by simp
    rw [Tr.wrap_id (x := (pre.length : Int) + 1) (by omega) (by omega), q1, q2]
    clear q1 q2
    generalize (pre.length + 1) * A = A' at hfl this ⊢
    generalize B * s = B' at hpp this ⊢
    rw [Tr.wrap_id (x := (A' : Int)) (by omega) (by omega), Tr.wrap_id (x := (B' : Int)) (by omega) (by omega)]
    refine evpos (by omega) (evpos (by omega) (evpos (by omega) (evpos (by omega) (evpos (by omega) ?_))))
    rw [show (pre.length : Int) + 1 = ((pre.length + 1 : Nat) : Int) by omega]
    exact this
theorem ev_ways (szl : List Int) (f : Nat → Nat) (l : List Nat) (hl : l.length ≤ 20) (hv : ∀ v ∈ l, v < szl.length ∧ rd szl (v : Int) = (f v : Int) ∧ 0 < f v) (hd : Tr.lprod (l.map f) ∣ Tr.fact l.length) :
    Ev (fun k => impl_ways.f k szl (l.map (fun v : Nat => (v : Int)))) ((Tr.fact l.length / Tr.lprod (l.map f) : Nat) : Int) := by
  unfold impl_ways.f
  have := ev_ways_l0 szl f l [] l.length (by simp) (by simpa using hl) (by simpa using hv) (by simpa using Nat.le_of_dvd (Tr.fact_pos _) hd)
  simpa [Tr.fact, Tr.lprod] using this
def toI (l : List Nat) : List Int := l.map (fun v : Nat => (v : Int))
theorem toI_len (l : List Nat) : (toI l).length = l.length := by simp [toI]
theorem toI_rd (l : List Nat) (i : Nat) : rd (toI l) (i : Int) = ((l.getD i 0 : Nat) : Int) := by
  unfold rd toI
  rw [Int.toNat_natCast, List.getD_eq_getElem?_getD, List.getD_eq_getElem?_getD, List.getElem?_map]
  cases l[i]? <;> rfl
theorem toI_set (l : List Nat) (i x : Nat) : (toI l).set i (x : Int) = toI (l.set i x) := by simp [toI, List.map_set]
theorem ev_l09Count_l5 : ∀ (l pre : List Nat), (pre ++ l).length ≤ 1000 → (∀ x ∈ pre ++ l, 0 < x) → Tr.lprod (pre ++ l) ≤ 2432902008176640000 →
    Ev (fun k => spec_l09Count.l5 k (toI (pre ++ l)) (Tr.lprod pre : Int) (pre.length : Int)) (Tr.lprod (pre ++ l) : Int) := by
  intro l
  induction l with
  | nil =>
    intro pre hb _ _
    refine Ev_succ ?_
    simp only [spec_l09Count.l5]
    rw [List.append_nil, toI_len]
    exact evneg (by omega) (Ev.now _)
  | cons x l ih =>
    intro pre hb hp hl
    have h1 : Tr.lprod (pre ++ [x]) ≤ Tr.lprod (pre ++ x :: l) := by
      have e : pre ++ x :: l = (pre ++ [x]) ++ l := by simp
      have e0 : Tr.lprod (pre ++ x :: l) = Tr.lprod (pre ++ [x]) * Tr.lprod l := by rw [e, Tr.lprod_app]
      rw [e0]
      exact Nat.le_mul_of_pos_right _ (Tr.lprod_pos l (fun y hy => hp y (by simp [hy])))
    have e2 : Tr.lprod (pre ++ [x]) = Tr.lprod pre * x := by rw [Tr.lprod_app]; simp [Tr.lprod]
    have := ih (pre ++ [x]) (by simpa using hb) (by simpa using hp) (by simpa using hl)
    have e4 : pre ++ [x] ++ l = pre ++ x :: l := by simp
    have e5 : (pre ++ [x]).length = pre.length + 1 := by simp
    rw [e2, e4, e5] at this
    rw [e2] at h1
    have hg : (pre ++ x :: l).getD pre.length 0 = x := by simp [List.getD_eq_getElem?_getD]
    simp only [List.length_append, List.length_cons] at hb
    refine Ev_succ ?_
    simp only [spec_l09Count.l5]
    rw [toI_rd, hg, toI_len, show (Tr.lprod pre : Int) * (x : Int) = ((Tr.lprod pre * x : Nat) : Int) by simp]
    generalize Tr.lprod pre * x = A at h1 this ⊢
    generalize Tr.lprod (pre ++ x :: l) = B at hl h1 this ⊢
    refine evpos (by simp; omega) (evpos (by omega) ?_)
    rw [Tr.wrap_id (x := (A : Int)) (by omega) (by omega), Tr.wrap_succ (by omega)]
    exact this
theorem ev_l09Count_l4 (top bel : List Nat) (i j : Nat) (hi : i < bel.length) (hj : j < top.length) (hT : ∀ x ∈ top, x ≤ 1000) (hB : ∀ x ∈ bel, x ≤ 1000) (hk : top.length ≤ 1000) (r : Int) : ∀ (n b a : Nat), b < n → 0 < a → a ≤ 1000 → b ≤ 1000 →
    Ev (fun k => spec_l09Count.l3 k (toI (top.set j (top.getD j 0 / Nat.gcd a b))) (toI (bel.set i (bel.getD i 0 / Nat.gcd a b))) (i : Int) ((j + 1 : Nat) : Int)) r → Ev (fun k => spec_l09Count.l4 k (toI top) (toI bel) (i : Int) (j : Int) (a : Int) (b : Int)) r := by
  intro n
  induction n with
  | zero => intro b a h; omega
  | succ n ih =>
    intro b a hb ha hla hlb h
    by_cases hz : b = 0
    · subst hz
      rw [Nat.gcd_zero_right] at h
      refine Ev_succ ?_
      simp only [spec_l09Count.l4]
      rw [toI_rd, toI_rd, toI_len, toI_len]
      have t1 : top.getD j 0 ≤ 1000 := by rw [List.getD_eq_getElem?_getD, List.getElem?_eq_getElem hj]; exact hT _ (List.getElem_mem _)
      have t2 : bel.getD i 0 ≤ 1000 := by rw [List.getD_eq_getElem?_getD, List.getElem?_eq_getElem hi]; exact hB _ (List.getElem_mem _)
      generalize top.getD j 0 = x at t1 h ⊢
      generalize bel.getD i 0 = y at t2 h ⊢
      have d1 : Int.tdiv (x : Int) (a : Int) = ((x / a : Nat) : Int) := by rw [Int.tdiv_eq_ediv_of_nonneg (by omega)]; exact (Int.natCast_ediv _ _).symm
      have d2 : Int.tdiv (y : Int) (a : Int) = ((y / a : Nat) : Int) := by rw [Int.tdiv_eq_ediv_of_nonneg (by omega)]; exact (Int.natCast_ediv _ _).symm
      have l1 : x / a ≤ x := Nat.div_le_self _ _
      have l2 : y / a ≤ y := Nat.div_le_self _ _
      rw [d1, d2]
      clear d1 d2
      generalize x / a = x' at l1 h ⊢
      generalize y / a = y' at l2 h ⊢
      rw [Tr.wrap_id (x := (x' : Int)) (by omega) (by omega), Tr.wrap_id (x := (y' : Int)) (by omega) (by omega), Tr.wrap_succ (by omega), Int.toNat_natCast, Int.toNat_natCast, toI_set, toI_set]
      exact evneg (by omega) (evpos (by omega) (evpos (by omega) (evneg (by omega) (evpos (by omega) (evpos (by omega) h)))))
    · have hlt : a % b < b := Nat.mod_lt _ (by omega)
      have e : Int.tmod (a : Int) (b : Int) = ((a % b : Nat) : Int) := by rw [Int.tmod_eq_emod_of_nonneg (by omega)]; exact (Int.natCast_emod _ _).symm
      have hg : Nat.gcd b (a % b) = Nat.gcd a b := by rw [Nat.gcd_comm b, ← Nat.gcd_rec, Nat.gcd_comm]
      have := ih (a % b) b (by omega) (by omega) hlb (by omega) (by rw [hg]; exact h)
      refine Ev_succ ?_
      simp only [spec_l09Count.l4]
      rw [e]
      clear e
      exact evpos (by omega) (evneg (by omega) this)
theorem ev_l09Count_l3 (bel : List Nat) (i : Nat) (hi : i < bel.length) (hB : ∀ x ∈ bel, x ≤ 1000) (hbl : bel.length ≤ 1000) (r : Int) : ∀ (ts pre : List Nat) (b : Nat), 0 < b → b ≤ 1000 → (pre ++ ts).length ≤ 1000 → (∀ x ∈ pre ++ ts, 0 < x ∧ x ≤ 1000) →
    Ev (fun k => spec_l09Count.l2 k (toI (pre ++ (Tr.cancel b ts).2)) (toI (bel.set i (Tr.cancel b ts).1)) ((i + 1 : Nat) : Int)) r → Ev (fun k => spec_l09Count.l3 k (toI (pre ++ ts)) (toI (bel.set i b)) (i : Int) (pre.length : Int)) r := by
  intro ts
  induction ts with
  | nil =>
    intro pre b hb hb1 hl _ h
    refine Ev_succ ?_
    simp only [spec_l09Count.l3]
    rw [toI_len]
    refine evneg (by simp) (Ev_succ ?_)
    simp only [spec_l09Count.j4]
    refine evneg (by simp) ?_
    rw [Tr.wrap_succ (by omega)]
    exact h
  | cons t ts ih =>
    intro pre b hb hb1 hl hp h
    have hgb : (bel.set i b).getD i 0 = b := by simp [List.getD_eq_getElem?_getD, hi]
    have hgt : (pre ++ t :: ts).getD pre.length 0 = t := by simp [List.getD_eq_getElem?_getD]
    have ht := hp t (by simp)
    have hl' := hl
    simp only [List.length_append, List.length_cons] at hl
    refine Ev_succ ?_
    simp only [spec_l09Count.l3]
    rw [toI_len, toI_len, toI_rd, hgb]
    refine evpos (by simp; omega) (evpos (by omega) (evpos (by simp; omega) (Ev_succ ?_)))
    simp only [spec_l09Count.j4]
    rw [toI_len, toI_len, toI_rd, toI_rd, hgb, hgt]
    unfold Tr.cancel at h
    by_cases h1 : 1 < b
    · rw [if_pos h1] at h
      refine evpos (by simp; omega) (evpos (by omega) (evpos (by simp; omega) (evpos (by omega) (evpos (by simp; omega) ?_))))
      have hg : 0 < Nat.gcd t b := Nat.gcd_pos_of_pos_left _ ht.1
      have hb2 : 0 < b / Nat.gcd t b := Nat.div_pos (Nat.le_of_dvd hb (Nat.gcd_dvd_right t b)) hg
      have ht2 : 0 < t / Nat.gcd t b := Nat.div_pos (Nat.le_of_dvd ht.1 (Nat.gcd_dvd_left t b)) hg
      have hb3 : b / Nat.gcd t b ≤ b := Nat.div_le_self _ _
      have ht3 : t / Nat.gcd t b ≤ t := Nat.div_le_self _ _
      refine ev_l09Count_l4 (pre ++ t :: ts) (bel.set i b) i pre.length (by simpa using hi) (by simp) (fun x hx => (hp x hx).2) (fun x hx => by
        rcases List.mem_or_eq_of_mem_set hx with hx | rfl
        · exact hB x hx
        · exact hb1) hl' r (b + 1) b t (by omega) ht.1 ht.2 hb1 ?_
      rw [hgb, hgt, List.set_set, show (pre ++ t :: ts).set pre.length (t / Nat.gcd t b) = pre ++ (t / Nat.gcd t b) :: ts by simp]
      have := ih (pre ++ [t / Nat.gcd t b]) (b / Nat.gcd t b) hb2 (by omega) (by simpa using hl') (fun x hx => by
        simp only [List.mem_append, List.mem_cons, List.mem_singleton, List.not_mem_nil, or_false] at hx
        rcases hx with (hx | rfl) | hx
        · exact hp x (by simp [hx])
        · exact ⟨ht2, by omega⟩
        · exact hp x (by simp [hx])) (by simpa using h)
      simpa using this
    · rw [if_neg h1] at h
      refine evneg (by simp; omega) ?_
      rw [Tr.wrap_succ (by omega)]
      exact h
theorem ev_l09Count_l2 : ∀ (bs pre ts : List Nat), (pre ++ bs).length ≤ 1000 → ts.length ≤ 1000 → (∀ x ∈ pre ++ bs, 0 < x ∧ x ≤ 1000) → (∀ x ∈ ts, 0 < x ∧ x ≤ 1000) → Tr.lprod ts ≤ 2432902008176640000 → Tr.lprod bs ∣ Tr.lprod ts →
    Ev (fun k => spec_l09Count.l2 k (toI ts) (toI (pre ++ bs)) (pre.length : Int)) (Tr.lprod (Tr.cancelAll bs ts) : Int) := by
  intro bs
  induction bs with
  | nil =>
    intro pre ts hb hl _ ht hp _
    refine Ev_succ ?_
    simp only [spec_l09Count.l2]
    rw [toI_len]
    refine evneg (by simp) ?_
    have := ev_l09Count_l5 ts [] (by simpa using hl) (by simpa using fun x hx => (ht x hx).1) (by simpa using hp)
    simpa [Tr.lprod, Tr.cancelAll] using this
  | cons b bs ih =>
    intro pre ts hb hl hpb ht hp hd
    have hb0 := hpb b (by simp)
    have hd1 : b ∣ Tr.lprod ts := Nat.dvd_trans ⟨Tr.lprod bs, rfl⟩ hd
    obtain ⟨c1, c2, c3, c4⟩ := Tr.cancel_spec ts b hb0.1 (fun x hx => (ht x hx).1) hd1
    have hd2 : Tr.lprod bs ∣ Tr.lprod (Tr.cancel b ts).2 := by
      have : b * Tr.lprod bs ∣ b * Tr.lprod (Tr.cancel b ts).2 := by rw [c2]; exact hd
      exact Nat.dvd_of_mul_dvd_mul_left hb0.1 this
    have hle : Tr.lprod (Tr.cancel b ts).2 ≤ Tr.lprod ts := by rw [← c2]; exact Nat.le_mul_of_pos_left _ hb0.1
    have hb' := hb
    simp only [List.length_append, List.length_cons] at hb
    have hset : (pre ++ b :: bs).set pre.length b = pre ++ b :: bs := by simp
    refine Ev_succ ?_
    simp only [spec_l09Count.l2]
    rw [toI_len]
    refine evpos (by simp; omega) ?_
    have := ev_l09Count_l3 (pre ++ b :: bs) pre.length (by simp) (fun x hx => (hpb x hx).2) hb' (Tr.lprod (Tr.cancelAll (b :: bs) ts) : Int) ts [] b hb0.1 hb0.2 (by simpa using hl) (by simpa using ht) ?_
    · rw [hset] at this
      exact this
    · rw [c1]
      have h2 := ih (pre ++ [1]) (Tr.cancel b ts).2 (by simpa using hb') (by omega) (fun x hx => by
        simp only [List.mem_append, List.mem_singleton] at hx
        rcases hx with (hx | rfl) | hx
        · exact hpb x (by simp [hx])
        · omega
        · exact hpb x (by simp [hx])) (fun x hx => ⟨c3 x hx, ?_⟩) (by omega) hd2
      · rw [show (pre ++ b :: bs).set pre.length 1 = (pre ++ [1]) ++ bs by simp, List.nil_append]
        simpa [Tr.cancelAll] using h2
      · exact Tr.cancel_le ts b (fun x hx => (ht x hx).2) x hx
theorem ev_l09Count_l1 {d : List Int} {t : Tr.F} (h : Tr.Tree d t) (hs : t.size ≤ 20) (met : List Bool) (hm : met.length = t.size) (un : Nat → Bool) (hun : ∀ v : Nat, v < t.size → rdOf false met (v : Int) = !un v) (bs : List Nat) (hbs : bs = ((List.range t.size).filter un).map (fun v => 1 + (t.sub v).size)) (hd : Tr.lprod bs ∣ Tr.fact bs.length) :
    ∀ (m v : Nat), v + m = t.size → Ev (fun k => spec_l09Count.l1 k met (toI ((List.range (((List.range v).filter un).length)).map (· + 1))) (toI (((List.range v).filter un).map (fun v => 1 + (t.sub v).size))) (v : Int) d) ((Tr.fact bs.length / Tr.lprod bs : Nat) : Int) := by
  have hle := h.le
  have hlen := h.len
  intro m
  induction m with
  | zero =>
    intro v hv
    obtain rfl : v = t.size := (by omega)
    have hbl : bs.length ≤ 20 := by
      rw [hbs, List.length_map]
      exact Nat.le_trans (List.length_filter_le _ _) (by simp; omega)
    have e1 : ((List.range t.size).filter un).length = bs.length := by rw [hbs, List.length_map]
    have hfl := Tr.fact_le _ _ hbl
    rw [show Tr.fact 20 = 2432902008176640000 by rfl] at hfl
    have hp0 : ∀ x ∈ bs, 0 < x ∧ x ≤ 1000 := by
      intro x hx
      rw [hbs] at hx
      simp only [List.mem_map, List.mem_filter, List.mem_range] at hx
      obtain ⟨v, ⟨hv1, _⟩, rfl⟩ := hx
      have := h.fits hv1
      omega
    have ht0 : ∀ x ∈ (List.range bs.length).map (· + 1), 0 < x ∧ x ≤ 1000 := by
      intro x hx
      simp only [List.mem_map, List.mem_range] at hx
      obtain ⟨v, hv1, rfl⟩ := hx
      omega
    refine Ev_succ ?_
    simp only [spec_l09Count.l1, l01N_eq]
    rw [e1, ← hbs]
    refine evsome (evneg (by omega) ?_)
    have := ev_l09Count_l2 bs [] ((List.range bs.length).map (· + 1)) (by simp; omega) (by simp; omega) (by simpa using hp0) ht0 (by rw [Tr.lprod_up]; exact hfl) (by rw [Tr.lprod_up]; exact hd)
    have hsp := Tr.cancelAll_spec bs ((List.range bs.length).map (· + 1)) (fun x hx => (hp0 x hx).1) (fun x hx => (ht0 x hx).1) (by rw [Tr.lprod_up]; exact hd)
    rw [Tr.lprod_up] at hsp
    have hpos := Tr.lprod_pos bs (fun x hx => (hp0 x hx).1)
    rw [← hsp, Nat.mul_div_cancel_left _ hpos]
    simpa using this
  | succ m ih =>
    intro v hv
    obtain ⟨n, hp⟩ := h.node (v := v) (by omega)
    have hf := h.fits (v := v) (by omega)
    have hfl : ((List.range v).filter un).length ≤ v := Nat.le_trans (List.length_filter_le _ _) (by simp)
    have hnext := ih (v + 1) (by omega)
    rw [List.range_succ, List.filter_append] at hnext
    have hmt := hun v (by omega)
    refine Ev_succ ?_
    simp only [spec_l09Count.l1, l01N_eq]
    refine evsome (evpos (by omega) (evpos (by omega) (evpos (by omega) ?_)))
    rw [hmt, Tr.wrap_succ (by omega)]
    cases hu : un v with
    | false =>
      simp only [List.filter_cons, hu, List.filter_nil, List.append_nil] at hnext
      exact evpos (by simp) (by simpa using hnext)
    | true =>
      simp only [List.filter_cons, hu, List.filter_nil, if_true] at hnext
      refine evneg (by simp) (evpos (by rw [toI_len]; simp; omega) (Ev.bind (ev_l01End (by omega) hp) (evpos (by rw [toI_len]; simp; omega) ?_)))
      rw [toI_len, Tr.wrap_id (x := ((v + 1 + (t.sub v).size : Nat) : Int) - v) (by omega) (by omega)]
      simp only [List.length_map, List.length_range]
      rw [Tr.wrap_succ (by omega)]
      have q1 : ∀ (l : List Nat) (x : Nat), toI l ++ [(x : Int)] = toI (l ++ [x]) := fun l x => by simp [toI]
      rw [show ((v + 1 + (t.sub v).size : Nat) : Int) - v = ((1 + (t.sub v).size : Nat) : Int) by omega, q1, q1]
      rw [List.length_append, List.map_append, show ([v] : List Nat).length = 1 from rfl, List.range_succ, List.map_append] at hnext
      exact hnext
theorem ev_l09Count_l0 {d : List Int} {t : Tr.F} (h : Tr.Tree d t) (hs : t.size ≤ 20) (bs : List Nat) : ∀ (l pre : List Int) (met : List Bool), (∀ c ∈ l, 0 ≤ c ∧ c < t.size) → (pre ++ l).length ≤ 1000 → met.length = t.size → (∀ v : Nat, v < t.size → rdOf false met (v : Int) = decide ((v : Int) ∈ pre)) →
    bs = ((List.range t.size).filter (fun v : Nat => decide (¬ (v : Int) ∈ pre ++ l))).map (fun v => 1 + (t.sub v).size) → Tr.lprod bs ∣ Tr.fact bs.length →
    Ev (fun k => spec_l09Count.l0 k (pre ++ l) met (pre.length : Int) d) ((Tr.fact bs.length / Tr.lprod bs : Nat) : Int) := by
  intro l
  induction l with
  | nil =>
    intro pre met _ hb hm hmet hbs hd
    refine Ev_succ ?_
    simp only [spec_l09Count.l0]
    refine evneg (by simp) ?_
    have := ev_l09Count_l1 h hs met hm (fun v : Nat => decide (¬ (v : Int) ∈ pre ++ [])) (fun v hv => by rw [hmet v hv]; simp) bs hbs hd t.size 0 (by omega)
    simpa [toI] using this
  | cons c l ih =>
    intro pre met hc hb hm hmet hbs hd
    have h1 := hc c (List.mem_cons_self ..)
    have e : rd (pre ++ c :: l) (pre.length : Int) = c := by rw [Tr.rd_app0]; exact Tr.rd_cons0 _ _
    have hb' := hb
    simp only [List.length_append, List.length_cons] at hb
    refine Ev_succ ?_
    simp only [spec_l09Count.l0]
    rw [e]
    clear e
    refine evpos (by simp; omega) (evpos (by omega) (evpos h1.1 (evpos (by omega) ?_)))
    rw [Tr.wrap_succ (by omega)]
    have := ih (pre ++ [c]) (met.set c.toNat true) (fun x hx => hc x (List.mem_cons_of_mem _ hx)) (by simpa using hb') (by simpa using hm) (fun v hv => by
      rw [Tr.rdOf_set (by omega) h1.1, hmet v hv]
      by_cases e : c = v
      · rw [if_pos e]; simp [e]
      · rw [if_neg e]; congr 1; simp only [List.mem_append, List.mem_singleton, eq_iff_iff]; constructor
        · exact fun h => .inl h
        · rintro (h | h)
          · exact h
          · exact absurd h.symm e) (by rw [hbs]; simp) hd
    simpa using this
theorem ev_l09Count {d : List Int} {t : Tr.F} (h : Tr.Tree d t) (hs : t.size ≤ 20) (bs : List Nat) (beg : List Int) (hb : ∀ c ∈ beg, 0 ≤ c ∧ c < t.size) (hl : beg.length ≤ 1000)
    (hbs : bs = ((List.range t.size).filter (fun v : Nat => decide (¬ (v : Int) ∈ beg))).map (fun v => 1 + (t.sub v).size)) (hd : Tr.lprod bs ∣ Tr.fact bs.length) :
    Ev (fun k => spec_l09Count.f k d beg) ((Tr.fact bs.length / Tr.lprod bs : Nat) : Int) := by
  have hle := h.le
  have hlen := h.len
  unfold spec_l09Count.f
  rw [l01N_eq]
  refine evsome (evpos (by omega) (evpos (by omega) ?_))
  have := ev_l09Count_l0 h hs bs beg [] (List.replicate d.length false) hb (by simpa using hl) (by simpa using hlen) (fun v hv => by rw [Tr.rdOf_rep]; simp) (by simpa using hbs) hd
  simpa using this
theorem ev_l09Order_l0 (d : List Int) (hd : d.length ≤ 1000) : ∀ (l pre : List Int) (met : List Bool), (pre ++ l).length ≤ 100000000 → met.length = d.length → pre.Nodup → (∀ x ∈ pre, 0 ≤ x ∧ x < d.length) → (∀ v : Nat, v < d.length → rdOf false met (v : Int) = decide ((v : Int) ∈ pre)) →
    Ev (fun k => spec_l09Order.l0 k (pre ++ l) met (pre.length : Int) d) (decide (Tr.isOrd d.length (pre ++ l))) := by
  intro l
  induction l with
  | nil =>
    intro pre met hb hm hn hr hmet
    refine Ev_succ ?_
    simp only [spec_l09Order.l0, l01N_eq]
    refine evneg (by simp) (evsome (evnow ?_))
    rw [List.append_nil, Bool.eq_iff_iff, beq_iff_eq, decide_eq_true_eq]
    constructor
    · intro e; exact ⟨by omega, hn, hr⟩
    · intro e; have := e.1; omega
  | cons x l ih =>
    intro pre met hb hm hn hr hmet
    have hb' := hb
    simp only [List.length_append, List.length_cons] at hb
    have e : rd (pre ++ x :: l) (pre.length : Int) = x := by rw [Tr.rd_app0]; exact Tr.rd_cons0 _ _
    have e3 : wrap64 ((pre.length : Int) + 1) = ((pre ++ [x]).length : Int) := by rw [Tr.wrap_id (by omega) (by omega)]; simp
    refine Ev_succ ?_
    simp only [spec_l09Order.l0, l01N_eq]
    refine evpos (by simp; omega) (evpos (by omega) (evsome ?_))
    rw [e, e3, l01In_eq, Tr.wrap_id (by omega) (by omega)]
    refine evsome ?_
    by_cases hx : 0 ≤ x ∧ x ≤ (d.length : Int) - 1
    · obtain ⟨v, rfl⟩ := Int.eq_ofNat_of_zero_le hx.1
      have hv : v < d.length := by omega
      refine evpos (by simpa using hx) (evpos (by omega) (evpos (by omega) ?_))
      rw [hmet v hv]
      by_cases hp : (v : Int) ∈ pre
      · refine evpos (by simpa using hp) (evnow ?_)
        symm; rw [decide_eq_false_iff_not]
        rintro ⟨_, h2, _⟩
        rw [List.nodup_append] at h2
        exact h2.2.2 _ hp _ (by simp) rfl
      · refine evneg (by simpa using hp) ?_
        have := ih (pre ++ [(v : Int)]) (met.set (v : Int).toNat true) (by simpa using hb') (by simpa using hm)
          (by
            rw [List.nodup_append]
            refine ⟨hn, by simp, ?_⟩
            intro a ha b hb e
            simp only [List.mem_singleton] at hb
            subst hb; subst e; exact hp ha)
          (by
            intro y hy
            simp only [List.mem_append, List.mem_singleton] at hy
            rcases hy with hy | rfl
            · exact hr y hy
            · omega)
          (fun u hu => by
            rw [Tr.rdOf_set (by omega) (by omega), hmet u hu]
            by_cases e : (v : Int) = u
            · rw [if_pos e]; simp [e]
            · rw [if_neg e]; congr 1; simp only [List.mem_append, List.mem_singleton, eq_iff_iff]; constructor
              · exact fun h => .inl h
              · rintro (h | h)
                · exact h
                · exact absurd h.symm e)
        simpa using this
    · refine evneg (by simpa using hx) (evnow ?_)
      symm; rw [decide_eq_false_iff_not]
      rintro ⟨_, _, h3⟩
      have := h3 x (by simp)
      omega
theorem ev_l09Order (d : List Int) (hd : d.length ≤ 1000) (l : List Int) (hl : l.length ≤ 100000000) : Ev (fun k => spec_l09Order.f k d l) (decide (Tr.isOrd d.length l)) := by
  unfold spec_l09Order.f
  rw [l01N_eq]
  refine evsome (evpos (by omega) (evpos (by omega) ?_))
  have := ev_l09Order_l0 d hd l [] (List.replicate d.length false) (by simpa using hl) (by simp) (by simp) (by simp) (fun v hv => by rw [Tr.rdOf_rep]; simp)
  simpa using this
theorem ev_l09Growing_l0 {d : List Int} {t : Tr.F} (h : Tr.Tree d t) : ∀ (l pre : List Int) (met : List Bool), (∀ c ∈ l, 0 ≤ c ∧ c < t.size) → (pre ++ l).length ≤ 100000000 → met.length = t.size → (∀ v : Nat, v < t.size → rdOf false met (v : Int) = decide ((v : Int) ∈ pre)) →
    Ev (fun k => spec_l09Growing.l0 k (pre ++ l) (Tr.parentsL t) met (pre.length : Int)) (Tr.grows t pre l) := by
  have hle := h.le
  have hlen := h.len
  intro l
  induction l with
  | nil =>
    intro pre met _ hb hm hmet
    refine Ev_succ ?_
    simp only [spec_l09Growing.l0]
    exact evneg (by simp) (Ev.now _)
  | cons x l ih =>
    intro pre met hc hb hm hmet
    have h1 := hc x (List.mem_cons_self ..)
    have hb' := hb
    simp only [List.length_append, List.length_cons] at hb
    have e : rd (pre ++ x :: l) (pre.length : Int) = x := by rw [Tr.rd_app0]; exact Tr.rd_cons0 _ _
    have e3 : wrap64 ((pre.length : Int) + 1) = ((pre ++ [x]).length : Int) := by rw [Tr.wrap_id (by omega) (by omega)]; simp
    obtain ⟨v, rfl⟩ := Int.eq_ofNat_of_zero_le h1.1
    have hv : v < t.size := by omega
    have hpr : rd (Tr.parentsL t) (v : Int) = t.par 0 (-1) v := Tr.each_rd hv
    have hpl : (Tr.parentsL t).length = t.size := Tr.each_len _ _
    have hpv := h.par_lt hv
    have go : Ev (fun k => spec_l09Growing.l0 k (pre ++ (v : Int) :: l) (Tr.parentsL t) (met.set (v : Int).toNat true) ((pre ++ [(v : Int)]).length : Int)) (Tr.grows t (pre ++ [(v : Int)]) l) := by
      have := ih (pre ++ [(v : Int)]) (met.set (v : Int).toNat true) (fun x hx => hc x (List.mem_cons_of_mem _ hx)) (by simpa using hb') (by simpa using hm) (fun u hu => by
        rw [Tr.rdOf_set (by omega) (by omega), hmet u hu]
        by_cases e : (v : Int) = u
        · rw [if_pos e]; simp [e]
        · rw [if_neg e]; congr 1; simp only [List.mem_append, List.mem_singleton, eq_iff_iff]; constructor
          · exact fun h => .inl h
          · rintro (h | h)
            · exact h
            · exact absurd h.symm e)
      simpa using this
    refine Ev_succ ?_
    simp only [spec_l09Growing.l0]
    refine evpos (by simp; omega) (evpos (by omega) ?_)
    rw [e, e3, hpr, hpl, hm]
    refine evpos (by omega) (evpos (by omega) ?_)
    simp only [Tr.grows]
    rw [show (v : Int).toNat = v from Int.toNat_natCast v] at go ⊢
    generalize t.par 0 (-1) v = q at hpr hpv ⊢
    by_cases hp : 0 ≤ q
    · obtain ⟨p, rfl⟩ := Int.eq_ofNat_of_zero_le hp
      refine evpos (by omega) (evpos (by omega) (evpos (by omega) ?_))
      rw [hmet p (by omega), show decide (((p : Int)) < 0) = false from decide_eq_false (by omega), Bool.false_or]
      by_cases hm2 : (p : Int) ∈ pre
      · refine evpos (by simpa using hm2) (evpos (by omega) ?_)
        rw [decide_eq_true hm2, Bool.true_and]
        exact go
      · refine evneg (by simpa using hm2) (evnow ?_)
        rw [decide_eq_false hm2, Bool.false_and]
    · refine evneg (by omega) (evpos (by omega) ?_)
      rw [decide_eq_true (by omega : q < 0), Bool.true_or, Bool.true_and]
      exact go
theorem ev_l09Growing {d : List Int} {t : Tr.F} (h : Tr.Tree d t) {l : List Int} (ho : Tr.isOrd d.length l) : Ev (fun k => spec_l09Growing.f k d l) (Tr.growing t l) := by
  have hle := h.le
  have hlen := h.len
  unfold spec_l09Growing.f
  refine Ev.bind (ev_l01Parents h) ?_
  rw [l01N_eq]
  refine evsome (evpos (by omega) (evpos (by omega) ?_))
  have := ev_l09Growing_l0 h l [] (List.replicate d.length false) (by rw [← hlen]; exact ho.2.2) (by have := ho.1; simp; omega) (by simpa using hlen) (fun v hv => by rw [Tr.rdOf_rep]; simp)
  show Ev _ (Tr.grows t [] l)
  simpa using this
theorem ev_l09Code_bad {d : List Int} (h : Tr.isT d = false) (l : List Int) : Ev (fun k => spec_l09Code.f k d l) 1 := by
  unfold spec_l09Code.f; exact Ev.bind (ev_l01Is d) (evneg (by simp [h]) (Ev.now _))
theorem ev_l09Code {d : List Int} {t : Tr.F} (h : Tr.Tree d t) (l : List Int) (hl : l.length ≤ 100000000) : Ev (fun k => spec_l09Code.f k d l) (Tr.codeG d l t) := by
  have hle := h.le
  unfold spec_l09Code.f
  refine Ev.bind (ev_l01Is d) (evpos h.isT (Ev.bind (ev_l09Order d (by omega) l hl) ?_))
  unfold Tr.codeG
  by_cases ho : Tr.isOrd d.length l
  · refine evpos (by simpa using ho) (Ev.bind (ev_l09Growing h ho) ?_)
    rw [if_pos ho]
    cases hg : Tr.growing t l with
    | true => exact evpos rfl (evnow (by simp))
    | false => exact evneg (by simp) (evnow (by simp))
  · refine evneg (by simpa using ho) (evnow ?_)
    rw [if_neg ho]
theorem ev_orderCode_l0 : ∀ (l pre : List Int) (N : Int), N = ((pre ++ l).length : Int) → N ≤ 100000000 → pre = Tr.upto pre.length →
    Ev (fun k => impl_orderCode.l0 k (pre ++ l) N (pre.length : Int)) (if pre ++ l = Tr.upto (pre ++ l).length then 0 else 2) := by
  intro l
  induction l with
  | nil =>
    intro pre N hN hb hp
    refine Ev_succ ?_
    simp only [impl_orderCode.l0]
    refine evneg (by simp at hN; omega) (evnow ?_)
    rw [List.append_nil, if_pos hp]
  | cons x l ih =>
    intro pre N hN hb hp
    have hN' := hN
    simp only [List.length_append, List.length_cons] at hN
    have e : rd (pre ++ x :: l) (pre.length : Int) = x := by rw [Tr.rd_app0]; exact Tr.rd_cons0 _ _
    have e3 : wrap64 ((pre.length : Int) + 1) = ((pre ++ [x]).length : Int) := by rw [Tr.wrap_id (by omega) (by omega)]; simp
    refine Ev_succ ?_
    simp only [impl_orderCode.l0]
    refine evpos (by omega) (evpos (by omega) (evpos (by simp; omega) ?_))
    rw [e, e3]
    by_cases hx : x = (pre.length : Int)
    · refine evpos hx ?_
      have := ih (pre ++ [x]) N (by simpa using hN') hb (by
        rw [List.length_append, List.length_singleton]
        show pre ++ [x] = Tr.each (pre.length + 1) _
        rw [Tr.each_succ]
        show pre ++ [x] = Tr.upto pre.length ++ [(pre.length : Int)]
        rw [← hp, hx])
      simpa using this
    · refine evneg hx (evnow ?_)
      rw [if_neg]
      intro hq
      have h1 : rd (pre ++ x :: l) (pre.length : Int) = rd (Tr.upto (pre ++ x :: l).length) (pre.length : Int) := by rw [← hq]
      rw [e, Tr.upto_rd (by simp)] at h1
      exact hx h1
theorem ev_orderCode (d l : List Int) (hl : l.length ≤ 100000000) : Ev (fun k => impl_orderCode.f k d l) (Tr.codeO d l) := by
  unfold impl_orderCode.f Tr.codeO
  refine Ev.bind (ev_IsTree d) ?_
  cases hd : Tr.isT d with
  | false => exact evneg (by simp) (evnow (by simp))
  | true =>
    refine evpos rfl ?_
    rw [if_pos rfl, show slices_Clone.f l = some l by unfold slices_Clone.f; rw [if_pos hl]]
    refine evsome ?_
    rw [show slices_Sort.f l = some (Tr.msort l) by unfold slices_Sort.f; rw [if_pos hl]; rfl]
    refine evsome ?_
    by_cases hn : l.length = d.length
    · refine evpos (by omega) ?_
      have := ev_orderCode_l0 (Tr.msort l) [] (l.length : Int) (by simp [Tr.msort_len]) (by omega) rfl
      simp only [List.nil_append, List.length_nil, Tr.msort_len, hn] at this
      rw [← hn] at this
      have e : (Tr.isOrd d.length l) = (Tr.msort l = Tr.upto l.length) := by
        rw [eq_iff_iff, Tr.isOrd_sort, ← hn]; simp
      have e2 : (if Tr.isOrd d.length l then (0 : Int) else 2) = if Tr.msort l = Tr.upto l.length then 0 else 2 := by
        by_cases q : Tr.isOrd d.length l
        · rw [if_pos q, if_pos (e ▸ q)]
        · rw [if_neg q, if_neg (e ▸ q)]
      rw [e2]
      exact this
    · refine evneg (by omega) (evnow ?_)
      rw [if_neg]
      intro q; exact hn q.1
theorem ev_labelsOf_l0 {n : Nat} {l : List Int} (ho : Tr.isOrd n l) (hn : n ≤ 1000) : ∀ (r pre out : List Int), l = pre ++ r → out.length = n → (∀ v : Nat, v < n → (v : Int) ∈ pre → rd out (v : Int) = Tr.idx (v : Int) l 0) →
    Ev (fun k => impl_labelsOf.l0 k out l (n : Int) (pre.length : Int)) (Tr.labels l n) := by
  intro r
  induction r with
  | nil =>
    intro pre out hl hol hout
    have := ho.1
    refine Ev_succ ?_
    simp only [impl_labelsOf.l0]
    rw [List.append_nil] at hl
    refine evneg (by rw [← hl]; omega) (evnow ?_)
    refine Tr.each_eq hol (fun v hv => hout v hv ?_)
    rw [← hl]; exact (Tr.isOrd_mem ho).mpr (by omega)
  | cons x r ih =>
    intro pre out hl hol hout
    have hlen := ho.1
    have hll : l.length = pre.length + (r.length + 1) := by rw [hl]; simp
    have e : rd l (pre.length : Int) = x := by rw [hl, Tr.rd_app0]; exact Tr.rd_cons0 _ _
    have e3 : wrap64 ((pre.length : Int) + 1) = ((pre ++ [x]).length : Int) := by rw [Tr.wrap_id (by omega) (by omega)]; simp
    have hx := ho.2.2 x (by rw [hl]; simp)
    have hnx : x ∉ pre := by
      have := ho.2.1
      rw [hl, List.nodup_append] at this
      intro hxa
      exact this.2.2 x hxa x (by simp) rfl
    refine Ev_succ ?_
    simp only [impl_labelsOf.l0]
    refine evpos (by omega) (evpos (by omega) (evpos (by omega) ?_))
    rw [e, e3]
    refine evpos (by omega) (evpos (by omega) ?_)
    refine ih (pre ++ [x]) _ (by rw [hl]; simp) (by simpa using hol) (fun v hv hm => ?_)
    rw [Tr.rd_set (by omega) hx.1]
    by_cases hxv : x = (v : Int)
    · rw [if_pos hxv, hl, ← hxv, Tr.idx_at hnx]
    · rw [if_neg hxv]
      refine hout v hv ?_
      simp only [List.mem_append, List.mem_singleton] at hm
      rcases hm with hm | hm
      · exact hm
      · exact absurd hm.symm hxv
theorem ev_labelsOf {n : Nat} {l : List Int} (ho : Tr.isOrd n l) (hn : n ≤ 1000) : Ev (fun k => impl_labelsOf.f k l) (Tr.labels l n) := by
  unfold impl_labelsOf.f
  have := ho.1
  refine evpos (by omega) (evpos (by omega) ?_)
  have := ev_labelsOf_l0 ho hn l [] (List.replicate (l.length : Int).toNat 0) rfl (by simp; omega) (fun v _ hm => absurd hm (by simp))
  rw [ho.1] at this ⊢
  simpa using this
theorem ev_isGrowing_l0 {d : List Int} {t : Tr.F} (h : Tr.Tree d t) (l : List Int) : ∀ (m v : Nat), v + m = t.size → 1 ≤ v →
    Ev (fun k => impl_isGrowing.l0 k d (Tr.labels l t.size) (Tr.parentsL t) (v : Int)) (decide (∀ u : Nat, u < t.size → v ≤ u → Tr.idx (t.par 0 (-1) u) l 0 ≤ Tr.idx (u : Int) l 0)) := by
  have hle := h.le
  have hlen := h.len
  intro m
  induction m with
  | zero =>
    intro v hv h1
    refine Ev_succ ?_
    simp only [impl_isGrowing.l0]
    refine evneg (by omega) (evnow ?_)
    symm; rw [decide_eq_true_eq]
    intro u hu hvu; omega
  | succ m ih =>
    intro v hv h1
    have hvs : v < t.size := by omega
    have hpr : rd (Tr.parentsL t) (v : Int) = t.par 0 (-1) v := Tr.each_rd hvs
    have hpl : (Tr.parentsL t).length = t.size := Tr.each_len _ _
    have hll : (Tr.labels l t.size).length = t.size := Tr.each_len _ _
    have hpv := h.par_pos h1 hvs
    have e1 : rd (Tr.labels l t.size) (v : Int) = Tr.idx (v : Int) l 0 := Tr.each_rd hvs
    have e2 : rd (Tr.labels l t.size) (t.par 0 (-1) v) = Tr.idx (t.par 0 (-1) v) l 0 := by
      obtain ⟨p, hp⟩ := Int.eq_ofNat_of_zero_le hpv.1
      rw [hp] at hpv ⊢
      exact Tr.each_rd (by omega)
    refine Ev_succ ?_
    simp only [impl_isGrowing.l0]
    rw [hpr, e1, e2, hpl, hll, Tr.wrap_succ (by omega)]
    refine evpos (by omega) (evpos (by omega) (evpos (by omega) (evpos (by omega) (evpos (by omega) (evpos (by omega) ?_)))))
    by_cases hlt : Tr.idx (v : Int) l 0 < Tr.idx (t.par 0 (-1) v) l 0
    · refine evpos hlt (evnow ?_)
      symm; rw [decide_eq_false_iff_not]
      intro hq
      have := hq v hvs (Nat.le_refl _)
      omega
    · refine evneg hlt ?_
      have e : (∀ u : Nat, u < t.size → v ≤ u → Tr.idx (t.par 0 (-1) u) l 0 ≤ Tr.idx (u : Int) l 0) ↔ (∀ u : Nat, u < t.size → v + 1 ≤ u → Tr.idx (t.par 0 (-1) u) l 0 ≤ Tr.idx (u : Int) l 0) := by
        constructor
        · intro hq u hu hvu; exact hq u hu (by omega)
        · intro hq u hu hvu
          rcases Nat.lt_or_ge v u with q | q
          · exact hq u hu q
          · have : u = v := by omega
            subst this; omega
      rw [decide_eq_decide.mpr e]
      exact ih (v + 1) (by omega) (by omega)
theorem ev_isGrowing {d : List Int} {t : Tr.F} (h : Tr.Tree d t) {l : List Int} (ho : Tr.isOrd d.length l) : Ev (fun k => impl_isGrowing.f k d l) (Tr.growing t l) := by
  have hle := h.le
  have hlen := h.len
  have hpos := h.pos
  rw [hlen] at ho
  unfold impl_isGrowing.f
  refine Ev.bind (ev_labelsOf ho (by omega)) (Ev.bind (ev_parentsOf h) ?_)
  have := ev_isGrowing_l0 h l (t.size - 1) 1 (by omega) (by omega)
  have e : (∀ u : Nat, u < t.size → 1 ≤ u → Tr.idx (t.par 0 (-1) u) l 0 ≤ Tr.idx (u : Int) l 0) ↔ Tr.grows t [] l = true := by
    rw [Tr.grows_pos h ho]
    constructor
    · intro q v h1 h2; exact q v h2 h1
    · intro q v h1 h2; exact q v h2 h1
  have e' : decide (∀ u : Nat, u < t.size → 1 ≤ u → Tr.idx (t.par 0 (-1) u) l 0 ≤ Tr.idx (u : Int) l 0) = Tr.growing t l := by
    rw [Bool.eq_iff_iff, decide_eq_true_eq]; exact e
  rw [e'] at this
  exact this
theorem ev_growingCode_bad {d : List Int} (h : Tr.isT d = false) (l : List Int) (hl : l.length ≤ 100000000) : Ev (fun k => impl_growingCode.f k d l) 1 := by
  unfold impl_growingCode.f
  refine Ev.bind (ev_orderCode d l hl) ?_
  have e : Tr.codeO d l = 1 := by unfold Tr.codeO; simp [h]
  rw [e]; exact evneg (by omega) (Ev.now _)
theorem ev_growingCode {d : List Int} {t : Tr.F} (h : Tr.Tree d t) (l : List Int) (hl : l.length ≤ 100000000) : Ev (fun k => impl_growingCode.f k d l) (Tr.codeG d l t) := by
  unfold impl_growingCode.f
  refine Ev.bind (ev_orderCode d l hl) ?_
  unfold Tr.codeO Tr.codeG
  rw [if_pos h.isT]
  by_cases ho : Tr.isOrd d.length l
  · rw [if_pos ho, if_pos ho]
    refine evpos rfl (Ev.bind (ev_isGrowing h ho) ?_)
    cases hg : Tr.growing t l with
    | true => exact evpos rfl (evnow (by simp))
    | false => exact evneg (by simp) (evnow (by simp))
  · rw [if_neg ho, if_neg ho]
    exact evneg (by omega) (Ev.now _)
theorem deg_range {d : List Int} {t : Tr.F} (h : Tr.Tree d t) {v : Nat} (hv : v < t.size) : 0 ≤ rd d (v : Int) ∧ rd d (v : Int) ≤ 24 := by
  have h1 := h.deg hv
  have h2 := h.fits hv
  have h3 := Tr.F.len_le (t.sub v)
  have h4 := h.few
  omega
def takeOutL (d : List Int) (t : Tr.F) (v : Nat) : List Int := (d.take v ++ d.drop (v + 1)).set (t.par 0 (-1) v).toNat (rd d (t.par 0 (-1) v) + rd d (v : Int) - 1)
theorem rd_take {d : List Int} {v p : Nat} (h : p < v) (hv : v ≤ d.length) : rd (d.take v) (p : Int) = rd d (p : Int) := by
  have e : rd d (p : Int) = rd (d.take v ++ d.drop v) (p : Int) := by rw [List.take_append_drop]
  rw [e, Tr.rd_left _ _ _ (by omega) (by simp; omega)]
theorem ev_cntS {d : List Int} {t : Tr.F} (h : Tr.Tree d t) (hs : t.size ≤ 20) {beg : List Int} (hc : Tr.closed t beg) (hl : beg.length ≤ 1000) : Ev (fun k => spec_l09Count.f k d beg) (Tr.cnt t beg : Int) :=
  ev_l09Count h hs (Tr.leftS t beg) beg hc.1 hl rfl (Tr.left_dvd h hc)
theorem others_eq {d : List Int} {t : Tr.F} (h : Tr.Tree d t) {beg : List Int} (hl : beg.length ≤ 1000) : impl_others.f d beg = some ((Tr.left t beg).map (fun v : Nat => (v : Int))) := by
  have hle := h.le
  have hlen := h.len
  have hpos := h.pos
  unfold impl_others.f
  rw [if_pos ⟨by omega, by omega, by omega⟩]
  congr 1
  unfold impl_others.upto Tr.left
  rw [List.filter_map, hlen]
  congr 1
  apply List.filter_congr
  intro v _
  simp [Function.comp]
theorem ev_cntW {d : List Int} {t : Tr.F} (h : Tr.Tree d t) (hs : t.size ≤ 20) {beg : List Int} (hc : Tr.closed t beg) : Ev (fun k => impl_ways.f k (Tr.sizesL t) ((Tr.left t beg).map (fun v : Nat => (v : Int)))) (Tr.cnt t beg : Int) := by
  have hll : (Tr.left t beg).length ≤ t.size := by
    unfold Tr.left
    have := List.length_filter_le (fun v : Nat => decide (¬ (v : Int) ∈ beg)) (List.range t.size)
    simpa using this
  have hd := Tr.left_dvd h hc
  have e : (Tr.leftS t beg).length = (Tr.left t beg).length := by unfold Tr.leftS; simp
  have hw := ev_ways (Tr.sizesL t) (fun v => 1 + (t.sub v).size) (Tr.left t beg) (by omega) (fun v hv => by
    have hv' : v < t.size := by
      have := (List.mem_filter.1 hv).1
      simpa using this
    exact ⟨by rw [Tr.sizesL, Tr.each_len]; exact hv', Tr.each_rd hv', by omega⟩) (by rw [← e]; exact hd)
  unfold Tr.cnt
  rw [e]
  exact hw
theorem ev_RankOfGrowing_s1 {d : List Int} {t : Tr.F} (h : Tr.Tree d t) (hs : t.size ≤ 20) {L : List Int} (ho : Tr.isOrd t.size L) (hg : Tr.growing t L = true) {i : Nat} (hi : i < t.size) {r : Int × Int} : ∀ (l pre : List Int) (a : Int), pre ++ l = Tr.nxt t (L.take i) → rd L (i : Int) ∈ l → l.Pairwise (fun x y => x < y) →
    Ev (fun k => spec_RankOfGrowing.l0 k L (Tr.accIn t (L.take i) (rd L (i : Int)) l a) ((i + 1 : Nat) : Int) d) r → Ev (fun k => spec_RankOfGrowing.l1 k L a (i : Int) (pre ++ l) (pre.length : Int) d) r := by
  have hle := h.le
  have hlen := h.len
  have hol := ho.1
  intro l
  induction l with
  | nil => intro pre a _ hm; simp at hm
  | cons v l ih =>
    intro pre a hpre hm hp hr
    have hnl := Tr.nxt_len t (L.take i)
    rw [← hpre] at hnl
    simp only [List.length_append, List.length_cons] at hnl
    have e : rd (pre ++ v :: l) (pre.length : Int) = v := by rw [Tr.rd_app0]; exact Tr.rd_cons0 _ _
    have hvn : v ∈ Tr.nxt t (L.take i) := by rw [← hpre]; simp
    have e3 : wrap64 ((pre.length : Int) + 1) = ((pre ++ [v]).length : Int) := by rw [Tr.wrap_id (by omega) (by omega)]; simp
    have e4 : wrap64 ((i : Int) + 1) = ((i + 1 : Nat) : Int) := Tr.wrap_succ (by omega)
    have hcl := Tr.closed_next h (Tr.grows_closed h ho hg i) hvn
    rw [List.pairwise_cons] at hp
    refine Ev_succ ?_
    simp only [spec_RankOfGrowing.l1]
    rw [e, e3, e4, Int.toNat_natCast]
    clear e e3 e4
    refine evpos (by omega) (evpos (by simp; omega) (evpos (by omega) (evpos (by omega) ?_)))
    by_cases hx : v = rd L (i : Int)
    · refine evpos hx ?_
      rw [Tr.accIn, if_neg (by omega), Tr.accIn_ge _ _ _ _ _ (fun w hw => by have := hp.1 w hw; omega)] at hr
      exact hr
    · have hml : rd L (i : Int) ∈ l := by
        rcases List.mem_cons.1 hm with q | q
        · exact absurd q.symm hx
        · exact q
      have hlt := hp.1 _ hml
      refine evneg hx (evpos (by omega) ?_)
      rw [l01Own_eq _ (by simp; omega)]
      refine evsome (evsome (evpos (by simp; omega) (Ev.bind (ev_cntS h hs hcl (by simp; omega)) ?_)))
      rw [Tr.accIn, if_pos hlt] at hr
      have := ih (pre ++ [v]) (wrap64 (a + (Tr.cnt t (L.take i ++ [v]) : Int))) (by simpa using hpre) hml hp.2 hr
      simpa using this
theorem ev_RankOfGrowing_i1 {d : List Int} {t : Tr.F} (h : Tr.Tree d t) (hs : t.size ≤ 20) {L : List Int} (ho : Tr.isOrd t.size L) (hg : Tr.growing t L = true) {i : Nat} (hi : i < t.size) (x30 : List Int) (x31 : Int) {r : Int × Int} : ∀ (l pre : List Int) (a n : Int), pre ++ l = Tr.nxt t (L.take i) → n = ((pre ++ l).length : Int) →
    Ev (fun k => impl_RankOfGrowing.l0 k L d (Tr.accIn t (L.take i) (rd L (i : Int)) l a) (Tr.sizesL t) x30 x31 ((i + 1 : Nat) : Int)) r → Ev (fun k => impl_RankOfGrowing.l1 k L d a (Tr.sizesL t) (i : Int) (rd L (i : Int)) x30 x31 (i : Int) (pre ++ l) n (pre.length : Int)) r := by
  have hle := h.le
  have hlen := h.len
  have hol := ho.1
  intro l
  induction l with
  | nil =>
    intro pre a n _ hn hr
    refine Ev_succ ?_
    simp only [impl_RankOfGrowing.l1]
    rw [show wrap64 ((i : Int) + 1) = ((i + 1 : Nat) : Int) from Tr.wrap_succ (by omega)]
    exact evneg (by rw [hn]; simp) hr
  | cons v l ih =>
    intro pre a n hpre hn hr
    have hnl := Tr.nxt_len t (L.take i)
    rw [← hpre] at hnl
    have hn' := hn
    simp only [List.length_append, List.length_cons] at hnl hn
    have e : rd (pre ++ v :: l) (pre.length : Int) = v := by rw [Tr.rd_app0]; exact Tr.rd_cons0 _ _
    have hvn : v ∈ Tr.nxt t (L.take i) := by rw [← hpre]; simp
    have e3 : wrap64 ((pre.length : Int) + 1) = ((pre ++ [v]).length : Int) := by rw [Tr.wrap_id (by omega) (by omega)]; simp
    have hcl := Tr.closed_next h (Tr.grows_closed h ho hg i) hvn
    refine Ev_succ ?_
    simp only [impl_RankOfGrowing.l1]
    rw [e, e3, Int.toNat_natCast]
    clear e e3
    refine evpos (by omega) (evpos (by omega) (evpos (by simp; omega) ?_))
    rw [Tr.accIn] at hr
    by_cases hx : v < rd L (i : Int)
    · rw [if_pos hx] at hr
      refine evpos hx (evpos (by omega) (evpos (by omega) ?_))
      rw [show slices_Clone.f (L.take i) = some (L.take i) by unfold slices_Clone.f; rw [if_pos (by simp; omega)]]
      refine evsome (evpos (by simp; omega) ?_)
      rw [others_eq h (by simp; omega)]
      refine evsome (Ev.bind (ev_cntW h hs hcl) ?_)
      have := ih (pre ++ [v]) (wrap64 (a + (Tr.cnt t (L.take i ++ [v]) : Int))) n (by simpa using hpre) (by rw [hn']; simp) hr
      simpa using this
    · rw [if_neg hx] at hr
      refine evneg hx ?_
      have := ih (pre ++ [v]) a n (by simpa using hpre) (by rw [hn']; simp) hr
      simpa using this
theorem ev_RankOfGrowing_l0 {d : List Int} {t : Tr.F} (h : Tr.Tree d t) (hs : t.size ≤ 20) {L : List Int} (ho : Tr.isOrd t.size L) (hg : Tr.growing t L = true) : ∀ (m i : Nat) (a : Int), i + m = t.size →
    Ev (fun k => spec_RankOfGrowing.l0 k L a (i : Int) d) (Tr.rankFrom t L m i a, 0) ∧ Ev (fun k => impl_RankOfGrowing.l0 k L d a (Tr.sizesL t) L (L.length : Int) (i : Int)) (Tr.rankFrom t L m i a, 0) := by
  have hle := h.le
  have hlen := h.len
  have hol := ho.1
  intro m
  induction m with
  | zero =>
    intro i a hi
    refine ⟨Ev_succ ?_, Ev_succ ?_⟩
    · simp only [spec_RankOfGrowing.l0]
      exact evneg (by omega) (Ev.now _)
    · simp only [impl_RankOfGrowing.l0]
      exact evneg (by omega) (Ev.now _)
  | succ m ih =>
    intro i a hi
    obtain ⟨h1, h2⟩ := ih (i + 1) (Tr.accIn t (L.take i) (rd L (i : Int)) (Tr.nxt t (L.take i)) a) (by omega)
    have hb : ∀ c ∈ L.take i, 0 ≤ c ∧ c < t.size := fun c hc => ho.2.2 c (List.mem_of_mem_take hc)
    refine ⟨Ev_succ ?_, Ev_succ ?_⟩
    · simp only [spec_RankOfGrowing.l0]
      rw [Int.toNat_natCast]
      refine evpos (by omega) (evpos (by omega) (evpos (by omega) (Ev.bind (ev_l09Next h hb (by simp; omega)) ?_)))
      exact ev_RankOfGrowing_s1 h hs ho hg (by omega) (Tr.nxt t (L.take i)) [] a rfl (Tr.grows_next h ho hg (by omega)) (Tr.nxt_sorted _ _) h1
    · simp only [impl_RankOfGrowing.l0]
      rw [Int.toNat_natCast]
      refine evpos (by omega) (evpos (by omega) (evpos (by omega) (evpos (by omega) (Ev.bind (ev_nexts h _ (by simp; omega)) ?_))))
      exact ev_RankOfGrowing_i1 h hs ho hg (by omega) L (L.length : Int) (Tr.nxt t (L.take i)) [] a _ rfl rfl h2
theorem ev_RankOfGrowing (d l : List Int) (hl : l.length ≤ 100000000) : ∃ r : Int × Int, Ev (fun k => spec_RankOfGrowing.f k d l) r ∧ Ev (fun k => impl_RankOfGrowing.f k d l) r := by
  rcases Tr.isT_cases d with h | ⟨t, h⟩
  · refine ⟨(0, 1), ?_, ?_⟩
    · unfold spec_RankOfGrowing.f
      refine Ev.bind (ev_l09Code_bad h l) (evneg (by omega) (Ev_succ ?_))
      simp only [spec_RankOfGrowing.j0]
      exact evneg (by omega) (Ev.now _)
    · unfold impl_RankOfGrowing.f; exact Ev.bind (ev_growingCode_bad h l hl) (evneg (by omega) (Ev.now _))
  have hle := h.le
  have hlen := h.len
  by_cases hc : Tr.codeG d l t = 0
  · have ho : Tr.isOrd t.size l := by rw [← hlen]; exact (Tr.codeG_zero.mp hc).1
    have hg := (Tr.codeG_zero.mp hc).2
    by_cases hs : t.size ≤ 20
    · obtain ⟨h1, h2⟩ := ev_RankOfGrowing_l0 h hs ho hg t.size 0 0 (by omega)
      refine ⟨(Tr.rankFrom t l t.size 0 0, 0), ?_, ?_⟩
      · unfold spec_RankOfGrowing.f
        refine Ev.bind (ev_l09Code h l hl) (evpos hc (Ev.bind (a := 0) ?_ (Ev_succ ?_)))
        · unfold spec_l09Few.f
          refine Ev.bind (ev_l01Is d) (evpos h.isT ?_)
          rw [l01N_eq]
          exact evsome (evneg (by omega) (Ev.now _))
        · simp only [spec_RankOfGrowing.j0]
          exact evpos (by simp) h1
      · unfold impl_RankOfGrowing.f
        refine Ev.bind (ev_growingCode h l hl) (evpos hc (Ev.bind (a := 0) ?_ (evpos rfl (Ev.bind (ev_sizesOf h) h2))))
        unfold impl_grownCode.f
        exact Ev.bind (ev_IsTree d) (evpos h.isT (evneg (by omega) (Ev.now _)))
    · refine ⟨(0, 3), ?_, ?_⟩
      · unfold spec_RankOfGrowing.f
        refine Ev.bind (ev_l09Code h l hl) (evpos hc (Ev.bind (a := 3) ?_ (Ev_succ ?_)))
        · unfold spec_l09Few.f
          refine Ev.bind (ev_l01Is d) (evpos h.isT ?_)
          rw [l01N_eq]
          exact evsome (evpos (by omega) (Ev.now _))
        · simp only [spec_RankOfGrowing.j0]
          exact evneg (by omega) (Ev.now _)
      · unfold impl_RankOfGrowing.f
        refine Ev.bind (ev_growingCode h l hl) (evpos hc (Ev.bind (a := 3) ?_ (evneg (by omega) (Ev.now _))))
        unfold impl_grownCode.f
        exact Ev.bind (ev_IsTree d) (evpos h.isT (evpos (by omega) (Ev.now _)))
  · refine ⟨(0, Tr.codeG d l t), ?_, ?_⟩
    · unfold spec_RankOfGrowing.f
      refine Ev.bind (ev_l09Code h l hl) (evneg hc (Ev_succ ?_))
      simp only [spec_RankOfGrowing.j0]
      exact evneg hc (Ev.now _)
    · unfold impl_RankOfGrowing.f; exact Ev.bind (ev_growingCode h l hl) (evneg hc (Ev.now _))
theorem pure_FnExactRankOfGrowing (l0 : List Int) (l1 : List Int) (hl0 : l0.length ≤ maxLen) (_ : ∀ x ∈ l0, (Lit.int .i64 x).wf = true) (hl1 : l1.length ≤ maxLen) (_ : ∀ x ∈ l1, (Lit.int .i64 x).wf = true) : ∃ k, laws_FnExactRankOfGrowing.f k l0 l1 = some true := by
  unfold maxLen at hl0
  unfold maxLen at hl1
  refine Ev.rounds ?_
  unfold laws_FnExactRankOfGrowing.f
  by_cases hs1 : (l1.length : Int) > 1048576
  · exact evpos hs1 (Ev.now _)
  refine evneg hs1 ?_
  rw [szTree_eq l0 (1048576) (by omega) (by omega) (by omega)]
  refine evsome ?_
  by_cases hs0 : (1048576 : Int) - l0.length < 0
  · rw [if_pos hs0]; exact evpos (by omega) (Ev.now _)
  rw [if_neg hs0]
  refine evneg hs0 ?_
  obtain ⟨r, hq, hi⟩ := ev_RankOfGrowing l0 l1 (by omega)
  repeat first
    | exact Ev.now _
    | refine Ev.bind hq ?_
    | refine Ev.bind hi ?_
    | refine Ev.bind (ev_toTree l0 (by omega)) ?_
    | refine Ev.bind (ev_eqTree l0 l0 (by omega) (by omega)) ?_
    | refine Ev.bind (ev_toInt64S l1 (by omega)) ?_
    | refine Ev.bind (ev_eqInt64S l1 l1 (by omega) (by omega)) ?_
    | (refine evpos ?_ ?_; first | rfl | (simp <;> fail))
    | (refine evneg ?_ ?_; first | (simp <;> fail) | (simp <;> omega))
end Go.Proofs.Ytlmaoeahdhbkdaa.QFnExactRankOfGrowing
