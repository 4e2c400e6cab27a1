import Derived.Test.YtdgldpbjdeikeaaHFnExactLeafDistancex
import Derived.Test.YtdgldpbjdeikeaaTr
import Derived.Test.YtdgldpbjdeikeaaNd
import Derived.Test.YtdgldpbjdeikeaaGr
import Derived.Test.YtdgldpbjdeikeaaLf
namespace Go.Proofs.Ytdgldpbjdeikeaa.PFnExactLeafDistance
open Go.RowKit Go.Proofs.YtdgldpbjdeikeaaW.PrintWords Go.Proofs.YtdgldpbjdeikeaaW.PrintLast Go.Proofs.YtdgldpbjdeikeaaW.PrintMore Go.Proofs.Ytdgldpbjdeikeaa
set_option linter.unusedVariables false
set_option linter.unusedSimpArgs false
theorem Ev_succ {α : Type} {g : Nat → Option α} {r : α} (h : Ev (fun k => g (k + 1)) r) : Ev g r := Ev.step (fun _ => rfl) h
theorem evpos {α : Type} {c : Prop} [Decidable c] {f g : Nat → Option α} {r : α} (h : c) (k : Ev f r) : Ev (fun n => if c then f n else g n) r := by
  simp only [if_pos h]; exact k
theorem evneg {α : Type} {c : Prop} [Decidable c] {f g : Nat → Option α} {r : α} (h : ¬ c) (k : Ev g r) : Ev (fun n => if c then f n else g n) r := by
  simp only [if_neg h]; exact k
theorem evsome {α β : Type} {a : α} {f : Nat → α → Option β} {r : β} (k : Ev (fun n => f n a) r) : Ev (fun n => (some a).bind (f n)) r := k
theorem evnow {α : Type} {a r : α} (h : a = r) : Ev (fun _ => some a) r := by subst h; exact Ev.now _
theorem ev_eq_l0 (xs ys : List Int) (hl : xs.length = ys.length) (hb : xs.length ≤ 1152921504606846976) : ∀ (n i : Nat), i + n = xs.length →
    Ev (fun k => laws_eqInt64S.l0 k xs ys (i : Nat)) (decide (xs.drop i = ys.drop i)) := by
  intro n
  induction n with
  | zero =>
    intro i hi
    refine Ev_succ ?_
    simp only [laws_eqInt64S.l0]
    refine evneg (by omega) (evnow ?_)
    rw [List.drop_of_length_le (by omega), List.drop_of_length_le (by omega)]; rfl
  | succ n ih =>
    intro i hi
    refine Ev_succ ?_
    simp only [laws_eqInt64S.l0]
    refine evpos (by omega) (evpos (by omega) (evpos (by omega) ?_))
    rw [Tr.rd_getElem (by omega : i < xs.length), Tr.rd_getElem (by omega : i < ys.length)]
    have e : wrap64 ((i : Int) + 1) = ((i + 1 : Nat) : Int) := by rw [Tr.wrap_id (by omega) (by omega)]; omega
    rw [e]
    have e3 : (xs.drop i = ys.drop i) = (xs[i] = ys[i] ∧ xs.drop (i + 1) = ys.drop (i + 1)) := by
      rw [List.drop_eq_getElem_cons (by omega : i < xs.length), List.drop_eq_getElem_cons (by omega : i < ys.length)]
      exact List.cons.injEq _ _ _ _
    have e4 : decide (xs.drop i = ys.drop i) = decide (xs[i] = ys[i] ∧ xs.drop (i + 1) = ys.drop (i + 1)) := by simp only [e3]
    rw [e4]
    by_cases h : xs[i] = ys[i]
    · refine evpos h ?_
      have := ih (i + 1) (by omega)
      rw [show decide (xs[i] = ys[i] ∧ xs.drop (i + 1) = ys.drop (i + 1)) = decide (xs.drop (i + 1) = ys.drop (i + 1)) by simp only [h, true_and]]
      exact this
    · refine evneg h (evnow ?_)
      simp only [h, false_and, decide_false]
theorem ev_eqInt64S (xs ys : List Int) (hb : xs.length ≤ 1152921504606846976) (hc : ys.length ≤ 1152921504606846976) : Ev (fun k => laws_eqInt64S.f k xs ys) (decide (xs = ys)) := by
  unfold laws_eqInt64S.f
  by_cases h : xs.length = ys.length
  · refine evpos (by omega) ?_
    have := ev_eq_l0 xs ys h hb xs.length 0 (by omega)
    simpa using this
  · refine evneg (by omega) (evnow ?_)
    rw [eq_comm, decide_eq_false_iff_not]
    intro e; exact h (by rw [e])
theorem ev_eqTree (xs ys : List Int) (hb : xs.length ≤ 1152921504606846976) (hc : ys.length ≤ 1152921504606846976) : Ev (fun k => laws_eqTree.f k xs ys) (decide (xs = ys)) := by
  unfold laws_eqTree.f
  refine Ev.bind (ev_eqInt64S xs ys hb hc) ?_
  by_cases h : xs = ys
  · rw [decide_eq_true h]; exact evpos rfl (Ev.now _)
  · rw [decide_eq_false h]; exact evneg (by simp) (Ev.now _)
theorem szInt64S_eq (xs : List Int) (a : Int) (h0 : 0 ≤ a) (h1 : a ≤ 1048576) (hb : xs.length ≤ 9223372036854775807) : laws_szInt64S.f xs a = some (if a - xs.length < 0 then -1 else a - xs.length) := by
  unfold laws_szInt64S.f
  rw [Tr.wrap_id (by omega) (by omega)]
  split <;> rfl
theorem szTree_eq (xs : List Int) (a : Int) (h0 : 0 ≤ a) (h1 : a ≤ 1048576) (hb : xs.length ≤ 9223372036854775807) : laws_szTree.f xs a = some (if a - xs.length < 0 then -1 else a - xs.length) := by
  unfold laws_szTree.f
  rw [szInt64S_eq xs a h0 h1 hb]
  simp only [Option.bind_some]
  by_cases h : a - xs.length < 0
  · simp only [if_pos h]; rfl
  · simp only [if_neg h]
theorem ev_to_l0 (xs : List Int) (hb : xs.length ≤ 35184372088832) : ∀ (n i : Nat) (ys : List Int), i + n = xs.length → ys.length = xs.length → ys.take i = xs.take i →
    Ev (fun k => laws_toInt64S.l0 k xs ys (i : Nat)) xs := by
  intro n
  induction n with
  | zero =>
    intro i ys hi hy ht
    refine Ev_succ ?_
    simp only [laws_toInt64S.l0]
    refine evneg (by omega) (evnow ?_)
    rwa [List.take_of_length_le (by omega), List.take_of_length_le (by omega)] at ht
  | succ n ih =>
    intro i ys hi hy ht
    refine Ev_succ ?_
    simp only [laws_toInt64S.l0]
    refine evpos (by omega) (evpos (by omega) (evpos (by omega) ?_))
    have e : wrap64 ((i : Int) + 1) = ((i + 1 : Nat) : Int) := by rw [Tr.wrap_id (by omega) (by omega)]; omega
    rw [e, Tr.rd_getElem (by omega : i < xs.length), Int.toNat_natCast]
    refine ih (i + 1) _ (by omega) (by simp [hy]) ?_
    rw [List.take_succ_eq_append_getElem (by simp; omega), List.take_succ_eq_append_getElem (by omega)]
    simp [List.take_set_of_le, ht]
theorem ev_toInt64S (xs : List Int) (hb : xs.length ≤ 35184372088832) : Ev (fun k => laws_toInt64S.f k xs) xs := by
  unfold laws_toInt64S.f
  refine evpos (by omega) (evpos (by omega) ?_)
  have := ev_to_l0 xs hb xs.length 0 (List.replicate xs.length 0) (by omega) (by simp) (by simp)
  simpa using this
theorem ev_toTree (xs : List Int) (hb : xs.length ≤ 35184372088832) : Ev (fun k => laws_toTree.f k xs) xs := by
  unfold laws_toTree.f
  exact Ev.bind (ev_toInt64S xs hb) (Ev.now _)
/-- The numbers m, m + 1, .. -/
def up (m : Int) : Nat → List Int
  | 0 => []
  | n + 1 => m :: up (m + 1) n
theorem up_len (n : Nat) : ∀ m, (up m n).length = n := by
  induction n with
  | zero => intro m; rfl
  | succ n ih => intro m; simp [up, ih]
theorem up_get (n : Nat) : ∀ (m : Int) (i : Nat) (h : i < (up m n).length), (up m n)[i] = m + i := by
  induction n with
  | zero => intro m i h; simp [up] at h
  | succ n ih =>
    intro m i h
    cases i with
    | zero => simp [up]
    | succ i => simp only [up, List.getElem_cons_succ, ih]; omega
theorem ev_isTree_l0 : ∀ (l pre : List Int) (m : Int) (n : Int), n = ((pre ++ l).length : Int) → n ≤ 1000 → 0 ≤ m → m + 24 * l.length ≤ 100000 →
    Ev (fun k => impl_isTree.l0 k m (pre ++ l) n (pre.length : Int)) (Tr.ok l m) := by
  intro l
  induction l with
  | nil =>
    intro pre m n hn hb h0 h1
    refine Ev_succ ?_
    simp only [impl_isTree.l0]
    simp only [List.length_append, List.length_nil] at hn
    refine evneg (by omega) (evnow ?_)
    rfl
  | cons x l ih =>
    intro pre m n hn hb h0 h1
    refine Ev_succ ?_
    simp only [impl_isTree.l0]
    have hn' := hn
    simp only [List.length_append, List.length_cons] at hn h1 ⊢
    refine evpos (by omega) (evpos (by omega) (evpos (by simp; omega) ?_))
    have e : rd (pre ++ x :: l) (pre.length : Int) = x := by rw [Tr.rd_app0]; exact Tr.rd_cons0 _ _
    rw [e]
    by_cases hm : m = 0
    · refine evpos hm (evnow ?_); simp [Tr.ok, hm]
    · refine evneg hm ?_
      by_cases hx : x < 0
      · refine evpos hx (evnow ?_); simp [Tr.ok, hm, Int.not_le.mpr hx]
      · refine evneg hx ?_
        by_cases hy : x ≥ 24
        · refine evpos hy (evnow ?_); simp [Tr.ok, hm, Int.not_lt.mpr hy]
        · refine evneg hy ?_
          have e2 : wrap64 (m + wrap64 (x - 1)) = m - 1 + x := by rw [Tr.wrap_id (x := x - 1) (by omega) (by omega), Tr.wrap_id (by omega) (by omega)]; omega
          have e3 : wrap64 ((pre.length : Int) + 1) = ((pre ++ [x]).length : Int) := by rw [Tr.wrap_id (by omega) (by omega)]; simp
          rw [e2, e3]
          have := ih (pre ++ [x]) (m - 1 + x) n (by simp; omega) hb (by omega) (by omega)
          simp only [List.append_assoc, List.singleton_append] at this
          rw [show Tr.ok (x :: l) m = Tr.ok l (m - 1 + x) by
            have : (m != 0) = true := bne_iff_ne.mpr hm
            have h4 : decide (0 ≤ x) = true := decide_eq_true (by omega)
            have h5 : decide (x < 24) = true := decide_eq_true (by omega)
            simp only [Tr.ok, this, h4, h5, Bool.true_and]]
          exact this
theorem ev_isTree (d : List Int) : Ev (fun k => impl_isTree.f k d) (Tr.isT d) := by
  unfold impl_isTree.f
  by_cases h : (d.length : Int) < 1
  · refine evpos h (Ev_succ ?_)
    simp only [impl_isTree.j0]
    refine evpos (by simp) (evnow ?_)
    simp only [Tr.isT, decide_eq_false (by omega : ¬ 1 ≤ d.length), Bool.false_and]
  · refine evneg h (Ev_succ ?_)
    simp only [impl_isTree.j0]
    by_cases h2 : (d.length : Int) > 24
    · refine evpos (decide_eq_true h2) (evnow ?_)
      simp only [Tr.isT, decide_eq_false (by omega : ¬ d.length ≤ 24), Bool.false_and, Bool.and_false]
    · refine evneg (by simpa using h2) ?_
      have := ev_isTree_l0 d [] 1 d.length (by simp) (by omega) (by omega) (by omega)
      rw [show Tr.isT d = Tr.ok d 1 by simp only [Tr.isT, decide_eq_true (by omega : 1 ≤ d.length), decide_eq_true (by omega : d.length ≤ 24), Bool.true_and]]
      exact this
theorem ev_IsTree (d : List Int) : Ev (fun k => impl_IsTree.f k d) (Tr.isT d) := by
  unfold impl_IsTree.f
  exact Ev.bind (ev_isTree d) (Ev.now _)
theorem l01In_eq (a b c : Int) : spec_l01In.f a b c = some (decide (b ≤ a ∧ a ≤ c)) := by
  unfold spec_l01In.f
  by_cases h : a ≥ b
  · rw [if_pos h]; congr 1; simp; omega
  · rw [if_neg h]; congr 1; symm; simp; omega
theorem l01N_eq (d : List Int) : spec_l01N.f d = some (d.length : Int) := rfl
theorem ev_l01Is_l0 : ∀ (l pre : List Int) (m : Int), (pre ++ l).length ≤ 24 → 0 ≤ m → (m ≥ 1 ∨ True) → m + 25 * l.length ≤ 100000 →
    Ev (fun k => spec_l01Is.l0 k m (pre.length : Int) (pre ++ l)) (Tr.ok25 l m) := by
  intro l
  induction l with
  | nil =>
    intro pre m hb h0 _ h1
    refine Ev_succ ?_
    simp only [spec_l01Is.l0, List.length_append, List.length_nil]
    refine evneg (by omega) (evnow ?_)
    rfl
  | cons x l ih =>
    intro pre m hb h0 _ h1
    refine Ev_succ ?_
    simp only [spec_l01Is.l0]
    simp only [List.length_append, List.length_cons] at h1 hb ⊢
    refine evpos (by omega) ?_
    have e : rd (pre ++ x :: l) (pre.length : Int) = x := by rw [Tr.rd_app0]; exact Tr.rd_cons0 _ _
    rw [e, l01In_eq]
    by_cases hm : m = 0
    · refine evpos hm (evnow ?_); simp [Tr.ok25, hm]
    · refine evneg hm (evpos (by omega) (evsome ?_))
      by_cases hx : 0 ≤ x ∧ x ≤ 24
      · refine evpos (decide_eq_true hx) ?_
        have e2 : wrap64 (wrap64 (m - 1) + x) = m - 1 + x := by rw [Tr.wrap_id (x := m - 1) (by omega) (by omega), Tr.wrap_id (by omega) (by omega)]
        have e3 : wrap64 ((pre.length : Int) + 1) = ((pre ++ [x]).length : Int) := by rw [Tr.wrap_id (by omega) (by omega)]; simp
        rw [e2, e3]
        have := ih (pre ++ [x]) (m - 1 + x) (by simp; omega) (by omega) (.inr trivial) (by omega)
        simp only [List.append_assoc, List.singleton_append] at this
        rw [show Tr.ok25 (x :: l) m = Tr.ok25 l (m - 1 + x) by
          have : (m != 0) = true := bne_iff_ne.mpr hm
          simp only [Tr.ok25, this, decide_eq_true hx, Bool.true_and]]
        exact this
      · refine evneg (by simpa using hx) (evnow ?_)
        simp only [Tr.ok25, decide_eq_false hx, Bool.false_and, Bool.and_false]
theorem ev_l01Is (d : List Int) : Ev (fun k => spec_l01Is.f k d) (Tr.isT d) := by
  unfold spec_l01Is.f
  rw [l01N_eq]
  refine evsome ?_
  rw [l01In_eq]
  refine evsome ?_
  by_cases h : (1 : Int) ≤ (d.length : Int) ∧ (d.length : Int) ≤ 24
  · refine evpos (decide_eq_true h) ?_
    have := ev_l01Is_l0 d [] 1 (by simp; omega) (by omega) (.inr trivial) (by omega)
    rw [Tr.isT_eq25 d (by omega) (by omega)]
    exact this
  · refine evneg (by simpa using h) (evnow ?_)
    simp only [Tr.isT]
    by_cases h2 : 1 ≤ d.length
    · simp only [decide_eq_false (by omega : ¬ d.length ≤ 24), Bool.false_and, Bool.and_false]
    · simp only [decide_eq_false h2, Bool.false_and]
theorem ev_endOf_l0 (d : List Int) (hd : d.length ≤ 1000) (r : Int) : ∀ (g : Tr.F) (p j : Nat), Tr.Pl d p g → j + g.size ≤ 100000 →
    Ev (fun k => impl_endOf.l0 k d ((p + g.size : Nat) : Int) (j : Int)) r → Ev (fun k => impl_endOf.l0 k d (p : Int) ((g.len + j : Nat) : Int)) r := by
  intro g
  induction g with
  | nil => intro p j _ _ h; simpa [Tr.F.size, Tr.F.len] using h
  | cons b n hb hn =>
    intro p j hp hj h
    have hle := hp.le
    simp only [Tr.F.size] at hle hj
    have l1 := Tr.F.len_le b
    have l2 := Tr.F.len_le n
    refine Ev_succ ?_
    simp only [impl_endOf.l0, Tr.F.len]
    refine evpos (by omega) (evpos (by omega) (evpos (by omega) ?_))
    rw [hp.deg]
    have e : wrap64 ((p : Int) + 1) = ((p + 1 : Nat) : Int) := by rw [Tr.wrap_id (by omega) (by omega)]; omega
    have e2 : wrap64 (((1 + n.len + j : Nat) : Int) + wrap64 ((b.len : Int) - 1)) = ((b.len + (n.len + j) : Nat) : Int) := by
      rw [Tr.wrap_id (x := (b.len : Int) - 1) (by omega) (by omega), Tr.wrap_id (by omega) (by omega)]; omega
    rw [e, e2]
    refine hb (p + 1) (n.len + j) hp.below (by omega) ?_
    refine hn (p + 1 + b.size) j hp.next (by omega) ?_
    rw [show p + 1 + b.size + n.size = p + (Tr.F.cons b n).size by simp only [Tr.F.size]; omega]
    exact h
theorem ev_endOf {d : List Int} (hd : d.length ≤ 1000) {p : Nat} {b n : Tr.F} (h : Tr.Pl d p (.cons b n)) : Ev (fun k => impl_endOf.f k d (p : Int)) ((p + 1 + b.size : Nat) : Int) := by
  unfold impl_endOf.f
  have := ev_endOf_l0 d hd ((p + 1 + b.size : Nat) : Int) (.cons b .nil) p 0 h.one (by have := h.le; simp only [Tr.F.size] at this ⊢; omega)
  simp only [Tr.F.len, Tr.F.size] at this
  refine this ?_
  refine Ev_succ ?_
  simp only [impl_endOf.l0]
  refine evneg (by omega) (evnow (by omega))
theorem ev_l01End_l0 (d : List Int) (hd : d.length ≤ 1000) (r : Int) : ∀ (g : Tr.F) (p j : Nat), Tr.Pl d p g → j + g.size ≤ 100000 →
    Ev (fun k => spec_l01End.l0 k ((p + g.size : Nat) : Int) (j : Int) d) r → Ev (fun k => spec_l01End.l0 k (p : Int) ((g.len + j : Nat) : Int) d) r := by
  intro g
  induction g with
  | nil => intro p j _ _ h; simpa [Tr.F.size, Tr.F.len] using h
  | cons b n hb hn =>
    intro p j hp hj h
    have hle := hp.le
    simp only [Tr.F.size] at hle hj
    have l1 := Tr.F.len_le b
    have l2 := Tr.F.len_le n
    refine Ev_succ ?_
    simp only [spec_l01End.l0, Tr.F.len]
    refine evpos (by omega) (evpos (by omega) (evpos (by omega) ?_))
    rw [hp.deg]
    have e : wrap64 ((p : Int) + 1) = ((p + 1 : Nat) : Int) := by rw [Tr.wrap_id (by omega) (by omega)]; omega
    have e2 : wrap64 (wrap64 (((1 + n.len + j : Nat) : Int) - 1) + (b.len : Int)) = ((b.len + (n.len + j) : Nat) : Int) := by
      rw [Tr.wrap_id (x := ((1 + n.len + j : Nat) : Int) - 1) (by omega) (by omega), Tr.wrap_id (by omega) (by omega)]; omega
    rw [e, e2]
    refine hb (p + 1) (n.len + j) hp.below (by omega) ?_
    refine hn (p + 1 + b.size) j hp.next (by omega) ?_
    rw [show p + 1 + b.size + n.size = p + (Tr.F.cons b n).size by simp only [Tr.F.size]; omega]
    exact h
theorem ev_l01End {d : List Int} (hd : d.length ≤ 1000) {p : Nat} {b n : Tr.F} (h : Tr.Pl d p (.cons b n)) : Ev (fun k => spec_l01End.f k d (p : Int)) ((p + 1 + b.size : Nat) : Int) := by
  unfold spec_l01End.f
  have := ev_l01End_l0 d hd ((p + 1 + b.size : Nat) : Int) (.cons b .nil) p 0 h.one (by have := h.le; simp only [Tr.F.size] at this ⊢; omega)
  simp only [Tr.F.len, Tr.F.size] at this
  refine this ?_
  refine Ev_succ ?_
  simp only [spec_l01End.l0]
  refine evneg (by omega) (evnow (by omega))
theorem ev_kidsOf_l0 (d : List Int) (hd : d.length ≤ 1000) : ∀ (g : Tr.F) (p i N : Nat) (out : List Int), Tr.Pl d p g → i + g.len = N → N ≤ 1000 → out.length ≤ i →
    Ev (fun k => impl_kidsOf.l0 k d out (p : Int) (N : Int) (i : Int)) (out ++ g.roots p) := by
  intro g
  induction g with
  | nil =>
    intro p i N out hp hi hN ho
    simp only [Tr.F.len] at hi
    refine Ev_succ ?_
    simp only [impl_kidsOf.l0]
    refine evneg (by omega) (evnow ?_)
    simp [Tr.F.roots]
  | cons b n hb hn =>
    intro p i N out hp hi hN ho
    simp only [Tr.F.len] at hi
    refine Ev_succ ?_
    simp only [impl_kidsOf.l0]
    refine evpos (by omega) (evpos (by omega) (Ev.bind (ev_endOf hd hp) ?_))
    have e : wrap64 ((i : Int) + 1) = ((i + 1 : Nat) : Int) := by rw [Tr.wrap_id (by omega) (by omega)]; omega
    rw [e]
    have := hn (p + 1 + b.size) (i + 1) N (out ++ [(p : Int)]) hp.next (by omega) hN (by simp; omega)
    simpa [Tr.F.roots] using this
theorem ev_kidsOf {d : List Int} (hd : d.length ≤ 1000) {p : Nat} {b n : Tr.F} (h : Tr.Pl d p (.cons b n)) : Ev (fun k => impl_kidsOf.f k d (p : Int)) (b.roots (p + 1)) := by
  have hle := h.le
  simp only [Tr.F.size] at hle
  have l1 := Tr.F.len_le b
  unfold impl_kidsOf.f
  refine evpos (by omega) (evpos (by omega) ?_)
  have e : wrap64 ((p : Int) + 1) = ((p + 1 : Nat) : Int) := by rw [Tr.wrap_id (by omega) (by omega)]; omega
  rw [h.deg, e]
  have := ev_kidsOf_l0 d hd b (p + 1) 0 b.len [] h.below (by omega) (by omega) (by simp)
  simpa using this
theorem ev_l01Children_l0 (d : List Int) (hd : d.length ≤ 1000) : ∀ (g : Tr.F) (p : Nat) (out : List Int), Tr.Pl d p g → out.length + g.len ≤ 1000 →
    Ev (fun k => spec_l01Children.l0 k out (p : Int) (g.len : Int) d) (out ++ g.roots p) := by
  intro g
  induction g with
  | nil =>
    intro p out hp ho
    refine Ev_succ ?_
    simp only [spec_l01Children.l0, Tr.F.len]
    refine evneg (by omega) (evnow ?_)
    simp [Tr.F.roots]
  | cons b n hb hn =>
    intro p out hp ho
    simp only [Tr.F.len] at ho
    refine Ev_succ ?_
    simp only [spec_l01Children.l0, Tr.F.len]
    refine evpos (by omega) (evpos (by omega) (Ev.bind (ev_l01End hd hp) ?_))
    have e : wrap64 (((1 + n.len : Nat) : Int) - 1) = (n.len : Int) := by rw [Tr.wrap_id (by omega) (by omega)]; omega
    rw [e]
    have := hn (p + 1 + b.size) (out ++ [(p : Int)]) hp.next (by simp; omega)
    simpa [Tr.F.roots] using this
theorem ev_l01Children {d : List Int} (hd : d.length ≤ 1000) {p : Nat} {b n : Tr.F} (h : Tr.Pl d p (.cons b n)) : Ev (fun k => spec_l01Children.f k d (p : Int)) (b.roots (p + 1)) := by
  have hle := h.le
  simp only [Tr.F.size] at hle
  have l1 := Tr.F.len_le b
  unfold spec_l01Children.f
  refine evpos (by omega) (evpos (by omega) ?_)
  have e : wrap64 ((p : Int) + 1) = ((p + 1 : Nat) : Int) := by rw [Tr.wrap_id (by omega) (by omega)]; omega
  rw [h.deg, e]
  have := ev_l01Children_l0 d hd b (p + 1) [] h.below (by simp; omega)
  simpa using this
theorem l01Own_eq (l : List Int) (h : l.length ≤ 1000000) : spec_l01Own.f l = some l := by
  unfold spec_l01Own.f
  simp only [Option.bind_some]
  rw [if_pos (by simp; omega)]
  simp
theorem l01Make_eq (l : List Int) (h : l.length ≤ 1000000) : spec_l01Make.f l = some l := by
  unfold spec_l01Make.f
  rw [l01Own_eq l h]; rfl
theorem ev_l01Subtree {d : List Int} (hd : d.length ≤ 1000) {p : Nat} {b n : Tr.F} (h : Tr.Pl d p (.cons b n)) : Ev (fun k => spec_l01Subtree.f k d (p : Int)) (Tr.F.cons b .nil).enc := by
  have hle := h.le
  simp only [Tr.F.size] at hle
  unfold spec_l01Subtree.f
  refine Ev.bind (ev_l01End hd h) (evpos (by omega) (evpos (by omega) (evpos (by omega) ?_)))
  rw [Int.toNat_natCast, Int.toNat_natCast]
  have e : (d.take (p + 1 + b.size)).drop p = (Tr.F.cons b .nil).enc := by
    obtain ⟨pre, post, rfl, rfl⟩ := h.one
    rw [List.append_assoc, List.drop_take, List.drop_append_of_le_length (Nat.le_refl _), List.drop_length, List.nil_append,
      List.take_append_of_le_length (by rw [Tr.F.enc_len]; simp [Tr.F.size]; omega)]
    exact List.take_of_length_le (by rw [Tr.F.enc_len]; simp [Tr.F.size]; omega)
  rw [e, l01Make_eq _ (by rw [Tr.F.enc_len]; simp only [Tr.F.size]; omega)]
  exact Ev.now _
theorem ev_l07Leaves_l1 {d e : List Int} (hd : d.length ≤ 1000) (he : e.length ≤ 1000) (x : Tr.F) (p i : Nat) (ks : List Int) (hi : i < ks.length) (hk : ks.length ≤ 1000) (hki : rd ks (i : Int) = (p : Int)) {n0 : Tr.F} (hp : Tr.Pl d p (.cons x n0)) (hxs : x.size ≤ 1000)
    (IH : ∀ y : Tr.F, 1 + y.size ≤ 1000 → Ev (fun k => spec_l07Leaves.f k (Tr.F.cons x .nil).enc (Tr.F.cons y .nil).enc) (Tr.leaves x y)) (row : List Int) (hrow : ∀ z ∈ row, 0 ≤ z ∧ z ≤ 100000) (r : Int) (bl : List Int) (hbl : row.length = bl.length + 1) (hb : bl.length ≤ 1000) :
    ∀ (g : Tr.F) (q : Nat) (pre : List Int) (nx : List Int), Tr.Pl e q g → pre ++ g.roots q = bl → nx.length = pre.length + 1 → (∀ z ∈ nx, 0 ≤ z ∧ z ≤ 200000) →
    Ev (fun k => spec_l07Leaves.l0 k ks bl (nx ++ Tr.scan (Tr.leaves x) row pre.length (rd nx (pre.length : Int)) g) ((i + 1 : Nat) : Int) d e) r →
    Ev (fun k => spec_l07Leaves.l1 k ks bl row (i : Int) nx (pre.length : Int) d e) r := by
  intro g
  induction g with
  | nil =>
    intro q pre nx hq hpre hnx hz h
    have e0 : wrap64 ((i : Int) + 1) = ((i + 1 : Nat) : Int) := by rw [Tr.wrap_id (by omega) (by omega)]; omega
    simp only [Tr.F.roots, List.append_nil] at hpre
    refine Ev_succ ?_
    simp only [spec_l07Leaves.l1]
    refine evneg (by rw [hpre]; omega) ?_
    rw [e0]
    rw [Tr.scan, List.append_nil] at h
    exact h
  | cons y m _ hm =>
    intro q pre nx hq hpre hnx hz h
    have hql := hq.le
    simp only [Tr.F.size] at hql
    have hlen : pre.length < bl.length := by rw [← hpre]; simp [Tr.F.roots]
    have hrd : rd bl (pre.length : Int) = (q : Int) := by rw [← hpre, Tr.rd_app0]; exact Tr.rd_cons0 _ _
    have e0 : wrap64 ((pre.length : Int) + 1) = ((pre.length + 1 : Nat) : Int) := by rw [Tr.wrap_id (by omega) (by omega)]; omega
    have IHy := IH y (by omega)
    have lb := Tr.leaves_bound x y
    rw [Tr.scan] at h
    generalize Tr.leaves x y = lv at lb IHy h
    refine Ev_succ ?_
    simp only [spec_l07Leaves.l1]
    rw [hki, hrd, e0]
    clear hki hrd e0
    have r1 := Tr.rd_bound (M := 100000) (by omega) hrow ((pre.length + 1 : Nat) : Int)
    have r2 := Tr.rd_bound (M := 100000) (by omega) hrow (pre.length : Int)
    have r3 := Tr.rd_bound (M := 200000) (by omega) hz (pre.length : Int)
    generalize rd row ((pre.length + 1 : Nat) : Int) = ra at r1 h ⊢
    generalize rd row (pre.length : Int) = rb at r2 h ⊢
    generalize rd nx (pre.length : Int) = rc at r3 h ⊢
    refine evpos (by omega) (evpos (by omega) (evpos (by omega) (evpos (by omega) (evpos (by omega) ?_))))
    refine Ev.bind (ev_l01Subtree hd hp) (Ev.bind (ev_l01Subtree he hq) (Ev.bind IHy ?_))
    refine evpos (by omega) (evpos (by omega) (evpos (by omega) (evpos (by omega) ?_)))
    have e1 : wrap64 (rb + lv) = rb + lv := Tr.wrap_id (by omega) (by omega)
    have e2 : mx (mx (rb + lv) ra) rc = mx (mx rc ra) (rb + lv) := by
      rw [Tr.mx_comm, Tr.mx_comm (rb + lv), Tr.mx_assoc]
    rw [e1, e2]
    have vb : 0 ≤ mx (mx rc ra) (rb + lv) ∧ mx (mx rc ra) (rb + lv) ≤ 200000 := by clear h; unfold mx; split <;> (try split) <;> omega
    generalize mx (mx rc ra) (rb + lv) = v at h vb ⊢
    have hnv : rd (nx ++ [v]) ((pre.length + 1 : Nat) : Int) = v := by rw [← hnx, Tr.rd_app0]; exact Tr.rd_cons0 _ _
    have hl2 : (pre ++ [(q : Int)]).length = pre.length + 1 := by simp
    have := hm (q + 1 + y.size) (pre ++ [(q : Int)]) (nx ++ [v]) hq.next (by rw [← hpre]; simp [Tr.F.roots]) (by simp; omega) (fun z hz' => by
      simp only [List.mem_append, List.mem_singleton] at hz'
      rcases hz' with hz' | rfl
      · exact hz z hz'
      · exact vb)
    rw [hl2, hnv] at this
    refine this ?_
    simpa using h
theorem ev_l07Leaves_l0 {d e : List Int} (hd : d.length ≤ 1000) (he : e.length ≤ 1000) (S : Nat) (hS : S ≤ 1000) (IH : ∀ x y : Tr.F, x.size < S → 1 + y.size ≤ 1000 → Ev (fun k => spec_l07Leaves.f k (Tr.F.cons x .nil).enc (Tr.F.cons y .nil).enc) (Tr.leaves x y))
    (b : Tr.F) (q : Nat) (hq : Tr.Pl e q b) (hb : b.len ≤ 1000) : ∀ (a : Tr.F) (p : Nat) (pre row : List Int), a.size ≤ S → Tr.Pl d p a → pre.length + a.len ≤ 1000 → row.length = b.len + 1 → (∀ z ∈ row, 0 ≤ z ∧ z ≤ 100000 - a.size) →
    Ev (fun k => spec_l07Leaves.l0 k (pre ++ a.roots p) (b.roots q) row (pre.length : Int) d e) (1 + rd (Tr.rows a row b) (b.len : Int)) := by
  intro a
  induction a with
  | nil =>
    intro p pre row hs hp hk hr hz
    have hbl : (b.roots q).length = b.len := Tr.F.roots_len _ _
    have r1 := Tr.rd_bound (M := 100000) (by omega) (fun z h => by have := hz z h; omega) (b.len : Int)
    refine Ev_succ ?_
    simp only [spec_l07Leaves.l0]
    rw [hbl]
    refine evneg (by simp [Tr.F.roots]) (evpos (by omega) (evpos (by omega) (evnow ?_)))
    rw [Tr.wrap_id (by omega) (by omega)]; rfl
  | cons x n _ hn =>
    intro p pre row hs hp hk hr hz
    have hbl : (b.roots q).length = b.len := Tr.F.roots_len _ _
    have hpl := hp.le
    simp only [Tr.F.size, Tr.F.len] at hs hpl hk
    refine Ev_succ ?_
    simp only [spec_l07Leaves.l0]
    have hrl := Tr.F.roots_len n (p + 1 + x.size)
    have hrl2 := Tr.F.roots_len (.cons x n) p
    simp only [Tr.F.len] at hrl2
    refine evpos (by simp only [List.length_append]; omega) ?_
    have hki : rd (pre ++ (Tr.F.cons x n).roots p) (pre.length : Int) = (p : Int) := by rw [Tr.rd_app0]; exact Tr.rd_cons0 _ _
    have := ev_l07Leaves_l1 hd he x p pre.length (pre ++ (Tr.F.cons x n).roots p) (by simp only [List.length_append]; omega) (by simp only [List.length_append]; omega) hki hp (by omega) (fun y hy => IH x y (by omega) hy) row (fun z h => by have := hz z h; simp only [Tr.F.size] at this; omega)
      (1 + rd (Tr.rows (.cons x n) row b) (b.len : Int)) (b.roots q) (by rw [hbl]; exact hr) (by rw [hbl]; exact hb) b q [] [0] hq (by simp) (by simp) (fun z h => by simp at h; omega)
    refine this ?_
    have e5 : pre ++ (Tr.F.cons x n).roots p = (pre ++ [(p : Int)]) ++ n.roots (p + 1 + x.size) := by simp [Tr.F.roots]
    rw [e5, Tr.rows_cons]
    have h2 := hn (p + 1 + x.size) (pre ++ [(p : Int)]) (0 :: Tr.scan (Tr.leaves x) row 0 0 b) (by omega) hp.next (by simp; omega) (by simp [Tr.scan_len]) (fun z h => by
      simp only [List.mem_cons] at h
      rcases h with rfl | h
      · have : n.size ≤ 1000 := by omega
        omega
      · have hx1 : (x.size : Int) + n.size ≤ 1000 := by omega
        have := Tr.scan_bound (Tr.leaves x) row (100000 - ((1 + x.size + n.size : Nat) : Int)) (1 + x.size) (by omega) (by omega) (fun z h => by have := hz z h; simp only [Tr.F.size] at this; exact this) (fun y => Tr.leaves_bound x y) b 0 0 (by omega) (by omega) z h
        omega)
    have hl2 : (pre ++ [(p : Int)]).length = pre.length + 1 := by simp
    rw [hl2] at h2
    have e6 : rd [0] ((([] : List Int).length : Nat) : Int) = 0 := rfl
    rw [e6]
    exact h2
theorem ev_l07Leaves : ∀ (S : Nat), S ≤ 1000 → ∀ x y : Tr.F, x.size < S → 1 + y.size ≤ 1000 → Ev (fun k => spec_l07Leaves.f k (Tr.F.cons x .nil).enc (Tr.F.cons y .nil).enc) (Tr.leaves x y) := by
  intro S
  induction S with
  | zero => intro _ x y h; omega
  | succ S ih =>
    intro hS x y hx hy
    have hpx := Tr.Pl.whole (.cons x .nil)
    have hpy := Tr.Pl.whole (.cons y .nil)
    have lx : (Tr.F.cons x .nil).enc.length = 1 + x.size := by rw [Tr.F.enc_len]; simp [Tr.F.size]
    have ly : (Tr.F.cons y .nil).enc.length = 1 + y.size := by rw [Tr.F.enc_len]; simp [Tr.F.size]
    have l1 := Tr.F.len_le x
    have l2 := Tr.F.len_le y
    have hyl : (y.roots (0 + 1)).length = y.len := Tr.F.roots_len _ _
    refine Ev_succ ?_
    simp only [spec_l07Leaves.f]
    refine Ev.bind (ev_l01Children (by omega) hpx) (Ev.bind (ev_l01Children (by omega) hpy) ?_)
    have e0 : wrap64 (((y.roots (0 + 1)).length : Int) + 1) = ((y.len + 1 : Nat) : Int) := by rw [hyl, Tr.wrap_id (by omega) (by omega)]; omega
    rw [e0, Int.toNat_natCast]
    unfold Tr.leaves
    refine evpos (by omega) (evpos (by omega) ?_)
    have := ev_l07Leaves_l0 (d := (Tr.F.cons x .nil).enc) (e := (Tr.F.cons y .nil).enc) (by omega) (by omega) S (by omega) (ih (by omega)) y (0 + 1) hpy.below (by omega) x (0 + 1) [] (List.replicate (y.len + 1) 0) (by omega) hpx.below (by simp; omega) (by simp) (fun z h => by rw [List.eq_of_mem_replicate h]; omega)
    exact this
theorem ev_areTrees_l0 : ∀ (l pre : List S24) (N : Int), N = ((pre ++ l).length : Int) → N ≤ 100000000 → Ev (fun k => impl_areTrees.l0 k (pre ++ l) N (pre.length : Int)) (l.all fun s => Tr.isT s.f0) := by
  intro l
  induction l with
  | nil =>
    intro pre N hN hb
    refine Ev_succ ?_
    simp only [impl_areTrees.l0]
    simp only [List.length_append, List.length_nil] at hN
    exact evneg (by omega) (evnow rfl)
  | cons s l ih =>
    intro pre N hN hb
    have hN' := hN
    simp only [List.length_append, List.length_cons] at hN
    refine Ev_succ ?_
    simp only [impl_areTrees.l0]
    have e : rd_T24 (pre ++ s :: l) (pre.length : Int) = s := by unfold rd_T24; simp [List.getD_eq_getElem?_getD]
    have e3 : wrap64 ((pre.length : Int) + 1) = ((pre ++ [s]).length : Int) := by rw [Tr.wrap_id (by omega) (by omega)]; simp
    refine evpos (by omega) (evpos (by omega) (evpos (by simp; omega) ?_))
    rw [e, e3]
    refine Ev.bind (ev_IsTree s.f0) ?_
    cases h : Tr.isT s.f0 with
    | true =>
      refine evpos rfl ?_
      have := ih (pre ++ [s]) N (by rw [hN']; simp) hb
      simpa [h] using this
    | false => exact evneg (by simp) (evnow (by simp [h]))
theorem ev_areTrees (l : List S24) (h : l.length ≤ 100000000) : Ev (fun k => impl_areTrees.f k l) (l.all fun s => Tr.isT s.f0) := by
  unfold impl_areTrees.f
  exact ev_areTrees_l0 l [] l.length (by simp) (by omega)
theorem ev_leavesInCommon_l1 {d e : List Int} (he : e.length ≤ 1000) (x : Tr.F) (p i : Nat) (al : List Int) (hi : i < al.length) (hk : al.length ≤ 1000) (hxs : x.size ≤ 1000)
    (IH : ∀ (y n : Tr.F) (q : Nat), Tr.Pl e q (.cons y n) → Ev (fun k => impl_leavesInCommon.f k d e (p : Int) (q : Int)) (Tr.leaves x y)) (row : List Int) (hrow : ∀ z ∈ row, 0 ≤ z ∧ z ≤ 100000) (r : Int) (bl : List Int) (hbl : row.length = bl.length + 1) (hb : bl.length ≤ 1000) (N : Int) :
    ∀ (g : Tr.F) (q : Nat) (pre : List Int) (nx rest : List Int), Tr.Pl e q g → pre ++ g.roots q = bl → nx.length = pre.length + 1 → rest.length = g.len → (∀ z ∈ nx, 0 ≤ z ∧ z ≤ 200000) →
    Ev (fun k => impl_leavesInCommon.l0 k d e bl (nx ++ Tr.scan (Tr.leaves x) row pre.length (rd nx (pre.length : Int)) g) al N ((i + 1 : Nat) : Int)) r →
    Ev (fun k => impl_leavesInCommon.l1 k d e bl row (p : Int) (nx ++ rest) al N (i : Int) bl (bl.length : Int) (pre.length : Int)) r := by
  intro g
  induction g with
  | nil =>
    intro q pre nx rest hq hpre hnx hre hz h
    have e0 : wrap64 ((i : Int) + 1) = ((i + 1 : Nat) : Int) := by rw [Tr.wrap_id (by omega) (by omega)]; omega
    simp only [Tr.F.roots, List.append_nil] at hpre
    simp only [Tr.F.len] at hre
    obtain rfl := List.eq_nil_of_length_eq_zero hre
    refine Ev_succ ?_
    simp only [impl_leavesInCommon.l1]
    refine evneg (by rw [hpre]; omega) ?_
    rw [e0, List.append_nil]
    rw [Tr.scan, List.append_nil] at h
    exact h
  | cons y m _ hm =>
    intro q pre nx rest hq hpre hnx hre hz h
    have hql := hq.le
    simp only [Tr.F.size, Tr.F.len] at hql hre
    have hlen : pre.length < bl.length := by rw [← hpre]; simp [Tr.F.roots]
    have hlr : (nx ++ rest).length = pre.length + 1 + (1 + m.len) := by rw [List.length_append, hnx, hre]
    have hrn : rd (nx ++ rest) (pre.length : Int) = rd nx (pre.length : Int) := Tr.rd_left nx rest _ (by omega) (by omega)
    have hrd : rd bl (pre.length : Int) = (q : Int) := by rw [← hpre, Tr.rd_app0]; exact Tr.rd_cons0 _ _
    have e0 : wrap64 ((pre.length : Int) + 1) = ((pre.length + 1 : Nat) : Int) := by rw [Tr.wrap_id (by omega) (by omega)]; omega
    have IHy := IH y m q hq
    have lb := Tr.leaves_bound x y
    rw [Tr.scan] at h
    generalize Tr.leaves x y = lv at lb IHy h
    refine Ev_succ ?_
    simp only [impl_leavesInCommon.l1]
    rw [hrd, e0, hrn]
    clear hrd e0 hrn
    have r1 := Tr.rd_bound (M := 100000) (by omega) hrow ((pre.length + 1 : Nat) : Int)
    have r2 := Tr.rd_bound (M := 100000) (by omega) hrow (pre.length : Int)
    have r3 := Tr.rd_bound (M := 200000) (by omega) hz (pre.length : Int)
    generalize rd row ((pre.length + 1 : Nat) : Int) = ra at r1 h ⊢
    generalize rd row (pre.length : Int) = rb at r2 h ⊢
    generalize rd nx (pre.length : Int) = rc at r3 h ⊢
    refine evpos (by omega) (evpos (by omega) (evpos (by omega) (evpos (by omega) (evpos (by omega) (evpos (by omega) (evpos (by omega) ?_))))))
    refine Ev.bind IHy (evpos (by omega) ?_)
    have e1 : wrap64 (rb + lv) = rb + lv := Tr.wrap_id (by omega) (by omega)
    rw [e1]
    have vb : 0 ≤ mx (mx rc ra) (rb + lv) ∧ mx (mx rc ra) (rb + lv) ≤ 200000 := by clear h; unfold mx; split <;> (try split) <;> omega
    generalize mx (mx rc ra) (rb + lv) = v at h vb ⊢
    cases rest with
    | nil => simp at hre; omega
    | cons r0 rest =>
      simp only [List.length_cons] at hre
      have hset : (nx ++ r0 :: rest).set ((pre.length + 1 : Nat) : Int).toNat v = (nx ++ [v]) ++ rest := by
        rw [Int.toNat_natCast, List.set_append_right _ _ (by omega), show pre.length + 1 - nx.length = 0 by omega]
        simp
      rw [hset]
      have hnv : rd (nx ++ [v]) ((pre.length + 1 : Nat) : Int) = v := by rw [← hnx, Tr.rd_app0]; exact Tr.rd_cons0 _ _
      have hl2 : (pre ++ [(q : Int)]).length = pre.length + 1 := by simp
      have := hm (q + 1 + y.size) (pre ++ [(q : Int)]) (nx ++ [v]) rest hq.next (by rw [← hpre]; simp [Tr.F.roots]) (by simp; omega) (by omega) (fun z hz' => by
        simp only [List.mem_append, List.mem_singleton] at hz'
        rcases hz' with hz' | rfl
        · exact hz z hz'
        · exact vb)
      rw [hl2, hnv, List.append_assoc, List.append_assoc, List.singleton_append, List.singleton_append] at this
      rw [List.append_assoc, List.singleton_append]
      exact this h
theorem ev_leavesInCommon_l0 {d e : List Int} (hd : d.length ≤ 1000) (he : e.length ≤ 1000) (S : Nat) (hS : S ≤ 1000) (IH : ∀ (x y n n' : Tr.F) (p q : Nat), x.size < S → Tr.Pl d p (.cons x n) → Tr.Pl e q (.cons y n') → Ev (fun k => impl_leavesInCommon.f k d e (p : Int) (q : Int)) (Tr.leaves x y))
    (b : Tr.F) (q : Nat) (hq : Tr.Pl e q b) (hb : b.len ≤ 1000) (N : Int) : ∀ (a : Tr.F) (p : Nat) (pre row : List Int), a.size ≤ S → Tr.Pl d p a → N = ((pre.length + a.len : Nat) : Int) → pre.length + a.len ≤ 1000 → row.length = b.len + 1 → (∀ z ∈ row, 0 ≤ z ∧ z ≤ 100000 - a.size) →
    Ev (fun k => impl_leavesInCommon.l0 k d e (b.roots q) row (pre ++ a.roots p) N (pre.length : Int)) (1 + rd (Tr.rows a row b) (b.len : Int)) := by
  intro a
  induction a with
  | nil =>
    intro p pre row hs hp hN hk hr hz
    have hbl : (b.roots q).length = b.len := Tr.F.roots_len _ _
    have r1 := Tr.rd_bound (M := 100000) (by omega) (fun z h => by have := hz z h; omega) (b.len : Int)
    simp only [Tr.F.len] at hN
    refine Ev_succ ?_
    simp only [impl_leavesInCommon.l0]
    rw [hbl]
    refine evneg (by omega) (evpos (by omega) (evpos (by omega) (evnow ?_)))
    rw [Tr.wrap_id (by omega) (by omega)]; rfl
  | cons x n _ hn =>
    intro p pre row hs hp hN hk hr hz
    have hbl : (b.roots q).length = b.len := Tr.F.roots_len _ _
    have hpl := hp.le
    simp only [Tr.F.size, Tr.F.len] at hs hpl hk hN
    refine Ev_succ ?_
    simp only [impl_leavesInCommon.l0]
    have hrl2 := Tr.F.roots_len (.cons x n) p
    simp only [Tr.F.len] at hrl2
    have hki : rd (pre ++ (Tr.F.cons x n).roots p) (pre.length : Int) = (p : Int) := by rw [Tr.rd_app0]; exact Tr.rd_cons0 _ _
    have e0 : wrap64 (((b.roots q).length : Int) + 1) = ((b.len + 1 : Nat) : Int) := by rw [hbl, Tr.wrap_id (by omega) (by omega)]; omega
    rw [hki, e0, Int.toNat_natCast]
    clear hki e0
    refine evpos (by omega) (evpos (by omega) (evpos (by simp only [List.length_append]; omega) (evpos (by omega) (evpos (by omega) ?_))))
    have := ev_leavesInCommon_l1 (d := d) (e := e) he x p pre.length (pre ++ (Tr.F.cons x n).roots p) (by simp only [List.length_append]; omega) (by simp only [List.length_append]; omega) (by omega) (fun y n' q hq => IH x y n n' p q (by omega) hp hq) row (fun z h => by have := hz z h; simp only [Tr.F.size] at this; omega)
      (1 + rd (Tr.rows (.cons x n) row b) (b.len : Int)) (b.roots q) (by rw [hbl]; exact hr) (by rw [hbl]; exact hb) N b q [] [0] (List.replicate b.len 0) hq (by simp) (by simp) (by simp) (fun z h => by simp at h; omega)
    refine this ?_
    have e5 : pre ++ (Tr.F.cons x n).roots p = (pre ++ [(p : Int)]) ++ n.roots (p + 1 + x.size) := by simp [Tr.F.roots]
    rw [e5, Tr.rows_cons]
    have hl2 : (pre ++ [(p : Int)]).length = pre.length + 1 := by simp
    have h2 := hn (p + 1 + x.size) (pre ++ [(p : Int)]) (0 :: Tr.scan (Tr.leaves x) row 0 0 b) (by omega) hp.next (by rw [hl2, hN]; omega) (by simp; omega) (by simp [Tr.scan_len]) (fun z h => by
      simp only [List.mem_cons] at h
      rcases h with rfl | h
      · have : n.size ≤ 1000 := by omega
        omega
      · have hx1 : (x.size : Int) + n.size ≤ 1000 := by omega
        have := Tr.scan_bound (Tr.leaves x) row (100000 - ((1 + x.size + n.size : Nat) : Int)) (1 + x.size) (by omega) (by omega) (fun z h => by have := hz z h; simp only [Tr.F.size] at this; exact this) (fun y => Tr.leaves_bound x y) b 0 0 (by omega) (by omega) z h
        omega)
    rw [hl2] at h2
    have e6 : rd [0] ((([] : List Int).length : Nat) : Int) = 0 := rfl
    rw [e6]
    exact h2
theorem ev_leavesInCommon {d e : List Int} (hd : d.length ≤ 1000) (he : e.length ≤ 1000) : ∀ (S : Nat), S ≤ 1000 → ∀ (x y n n' : Tr.F) (p q : Nat), x.size < S → Tr.Pl d p (.cons x n) → Tr.Pl e q (.cons y n') → Ev (fun k => impl_leavesInCommon.f k d e (p : Int) (q : Int)) (Tr.leaves x y) := by
  intro S
  induction S with
  | zero => intro _ x y n n' p q h; omega
  | succ S ih =>
    intro hS x y n n' p q hx hp hq
    have l1 := Tr.F.len_le x
    have l2 := Tr.F.len_le y
    have hpl := hp.le
    have hql := hq.le
    simp only [Tr.F.size] at hpl hql
    have hyl : (y.roots (q + 1)).length = y.len := Tr.F.roots_len _ _
    have hxl : (x.roots (p + 1)).length = x.len := Tr.F.roots_len _ _
    refine Ev_succ ?_
    simp only [impl_leavesInCommon.f]
    refine Ev.bind (ev_kidsOf hd hp) (Ev.bind (ev_kidsOf he hq) ?_)
    have e0 : wrap64 (((y.roots (q + 1)).length : Int) + 1) = ((y.len + 1 : Nat) : Int) := by rw [hyl, Tr.wrap_id (by omega) (by omega)]; omega
    rw [e0, Int.toNat_natCast]
    clear e0
    unfold Tr.leaves
    refine evpos (by omega) (evpos (by omega) ?_)
    have := ev_leavesInCommon_l0 hd he S (by omega) (ih (by omega)) y (q + 1) hq.below (by omega) ((x.roots (p + 1)).length : Int) x (p + 1) [] (List.replicate (y.len + 1) 0) (by omega) hp.below (by rw [hxl]; simp) (by simp; omega) (by simp) (fun z h => by rw [List.eq_of_mem_replicate h]; omega)
    rw [List.nil_append] at this
    exact this
theorem ev_LeafDistance (d e : List Int) : ∃ r : Int × Int, Ev (fun k => spec_LeafDistance.f k d e) r ∧ Ev (fun k => impl_LeafDistance.f k d e) r := by
  have bad : (Tr.isT d = false ∨ Tr.isT e = false) → ∃ r : Int × Int, Ev (fun k => spec_LeafDistance.f k d e) r ∧ Ev (fun k => impl_LeafDistance.f k d e) r := by
    intro h
    refine ⟨(0, 1), ?_, ?_⟩
    · unfold spec_LeafDistance.f
      refine Ev.bind (ev_l01Is d) ?_
      cases hd : Tr.isT d with
      | false =>
        refine evneg (by simp) (Ev_succ ?_)
        simp only [spec_LeafDistance.j0]
        exact evpos trivial (Ev.now _)
      | true =>
        rw [hd] at h
        refine evpos rfl (Ev.bind (ev_l01Is e) (Ev_succ ?_))
        simp only [spec_LeafDistance.j0]
        refine evpos ?_ (Ev.now _)
        rcases h with h | h
        · cases h
        · simp [h]
    · unfold impl_LeafDistance.f
      refine Ev.bind (ev_areTrees _ (by simp)) (evneg ?_ (Ev.now _))
      rcases h with h | h <;> simp [h]
  rcases Tr.isT_cases d with h | ⟨t, h⟩
  · exact bad (.inl h)
  · rcases Tr.isT_cases e with h' | ⟨u, h'⟩
    · exact bad (.inr h')
    · obtain ⟨x, rfl⟩ := h.one
      obtain ⟨y, rfl⟩ := h'.one
      have hd := h.le
      have he := h'.le
      have hf := h.few
      have hf' := h'.few
      simp only [Tr.F.size] at hf hf'
      have hi := h.isT
      have hi' := h'.isT
      refine ⟨(wrap64 (wrap64 ((d.length : Int) + (e.length : Int)) - wrap64 (2 * Tr.leaves x y)), 0), ?_, ?_⟩
      rotate_left
      · unfold impl_LeafDistance.f
        refine Ev.bind (ev_areTrees _ (by simp)) (evpos (by simp [hi, hi']) (Ev.bind (ev_leavesInCommon (by omega) (by omega) 100 (by omega) x y .nil .nil 0 0 (by omega) h.pl h'.pl) (Ev.now _)))
      · unfold spec_LeafDistance.f
        refine Ev.bind (ev_l01Is d) (evpos hi (Ev.bind (ev_l01Is e) (Ev_succ ?_)))
        simp only [spec_LeafDistance.j0]
        refine evneg (by simp [hi']) ?_
        rw [l01N_eq, l01N_eq]
        refine evsome (evsome ?_)
        have := ev_l07Leaves 100 (by omega) x y (by omega) (by omega)
        rw [← h.enc, ← h'.enc] at this
        exact Ev.bind this (Ev.now _)
theorem pure_FnExactLeafDistance (l0 : List Int) (l1 : List Int) (hl0 : l0.length ≤ maxLen) (_ : ∀ x ∈ l0, (Lit.int .i64 x).wf = true) (hl1 : l1.length ≤ maxLen) (_ : ∀ x ∈ l1, (Lit.int .i64 x).wf = true) : ∃ k, laws_FnExactLeafDistance.f k l0 l1 = some true := by
  unfold maxLen at hl0
  unfold maxLen at hl1
  refine Ev.rounds ?_
  unfold laws_FnExactLeafDistance.f
  rw [szTree_eq l0 (1048576) (by omega) (by omega) (by omega)]
  refine evsome ?_
  by_cases hs0 : (1048576 : Int) - l0.length < 0
  · rw [if_pos hs0]; exact evpos (by omega) (Ev.now _)
  rw [if_neg hs0]
  refine evneg hs0 ?_
  rw [szTree_eq l1 (1048576 - l0.length) (by omega) (by omega) (by omega)]
  refine evsome ?_
  by_cases hs1 : (1048576 - l0.length : Int) - l1.length < 0
  · rw [if_pos hs1]; exact evpos (by omega) (Ev.now _)
  rw [if_neg hs1]
  refine evneg hs1 ?_
  obtain ⟨r, hq, hi⟩ := ev_LeafDistance l0 l1
  repeat first
    | exact Ev.now _
    | refine Ev.bind hq ?_
    | refine Ev.bind hi ?_
    | refine Ev.bind (ev_toTree l0 (by omega)) ?_
    | refine Ev.bind (ev_eqTree l0 l0 (by omega) (by omega)) ?_
    | refine Ev.bind (ev_toTree l1 (by omega)) ?_
    | refine Ev.bind (ev_eqTree l1 l1 (by omega) (by omega)) ?_
    | (refine evpos ?_ ?_; first | rfl | (simp <;> fail))
    | (refine evneg ?_ ?_; first | (simp <;> fail) | (simp <;> omega))
    | (refine Ev_succ ?_; simp only [laws_FnExactLeafDistance.j0])
end Go.Proofs.Ytdgldpbjdeikeaa.PFnExactLeafDistance
