import Derived.Test.YtpahhheekobneaaQFnExactDoAgreex
import Derived.Test.YtpahhheekobneaaTr
import Derived.Test.YtpahhheekobneaaNd
import Derived.Test.YtpahhheekobneaaGr
import Derived.Test.YtpahhheekobneaaIx
import Derived.Test.YtpahhheekobneaaLf
namespace Go.Proofs.Ytpahhheekobneaa.QFnExactDoAgree
open Go.RowKit Go.Proofs.YtpahhheekobneaaW.PrintWords Go.Proofs.YtpahhheekobneaaW.PrintLast Go.Proofs.YtpahhheekobneaaW.PrintMore Go.Proofs.Ytpahhheekobneaa
set_option linter.unusedVariables false
set_option linter.unusedSimpArgs false
theorem Ev_succ {α : Type} {g : Nat → Option α} {r : α} (h : Ev (fun k => g (k + 1)) r) : Ev g r := Ev.step (fun _ => rfl) h
theorem evpos {α : Type} {c : Prop} [Decidable c] {f g : Nat → Option α} {r : α} (h : c) (k : Ev f r) : Ev (fun n => if c then f n else g n) r := by
  simp only [if_pos h]; exact k
theorem evneg {α : Type} {c : Prop} [Decidable c] {f g : Nat → Option α} {r : α} (h : ¬ c) (k : Ev g r) : Ev (fun n => if c then f n else g n) r := by
  simp only [if_neg h]; exact k
theorem evsome {α β : Type} {a : α} {f : Nat → α → Option β} {r : β} (k : Ev (fun n => f n a) r) : Ev (fun n => (some a).bind (f n)) r := k
theorem evnow {α : Type} {a r : α} (h : a = r) : Ev (fun _ => some a) r := by subst h; exact Ev.now _
theorem ev_eq_l0 (xs ys : List Int) (hl : xs.length = ys.length) (hb : xs.length ≤ 1152921504606846976) : ∀ (n i : Nat), i + n = xs.length →
    Ev (fun k => laws_eqInt64S.l0 k xs ys (i : Nat)) (decide (xs.drop i = ys.drop i)) := by
  intro n
  induction n with
  | zero =>
    intro i hi
    refine Ev_succ ?_
    simp only [laws_eqInt64S.l0]
    refine evneg (by omega) (evnow ?_)
    rw [List.drop_of_length_le (by omega), List.drop_of_length_le (by omega)]; rfl
  | succ n ih =>
    intro i hi
    refine Ev_succ ?_
    simp only [laws_eqInt64S.l0]
    refine evpos (by omega) (evpos (by omega) (evpos (by omega) ?_))
    rw [Tr.rd_getElem (by omega : i < xs.length), Tr.rd_getElem (by omega : i < ys.length)]
    have e : wrap64 ((i : Int) + 1) = ((i + 1 : Nat) : Int) := by rw [Tr.wrap_id (by omega) (by omega)]; omega
    rw [e]
    have e3 : (xs.drop i = ys.drop i) = (xs[i] = ys[i] ∧ xs.drop (i + 1) = ys.drop (i + 1)) := by
      rw [List.drop_eq_getElem_cons (by omega : i < xs.length), List.drop_eq_getElem_cons (by omega : i < ys.length)]
      exact List.cons.injEq _ _ _ _
    have e4 : decide (xs.drop i = ys.drop i) = decide (xs[i] = ys[i] ∧ xs.drop (i + 1) = ys.drop (i + 1)) := by simp only [e3]
    rw [e4]
    by_cases h : xs[i] = ys[i]
    · refine evpos h ?_
      have := ih (i + 1) (by omega)
      rw [show decide (xs[i] = ys[i] ∧ xs.drop (i + 1) = ys.drop (i + 1)) = decide (xs.drop (i + 1) = ys.drop (i + 1)) by simp only [h, true_and]]
      exact this
    · refine evneg h (evnow ?_)
      simp only [h, false_and, decide_false]
theorem ev_eqInt64S (xs ys : List Int) (hb : xs.length ≤ 1152921504606846976) (hc : ys.length ≤ 1152921504606846976) : Ev (fun k => laws_eqInt64S.f k xs ys) (decide (xs = ys)) := by
  unfold laws_eqInt64S.f
  by_cases h : xs.length = ys.length
  · refine evpos (by omega) ?_
    have := ev_eq_l0 xs ys h hb xs.length 0 (by omega)
    simpa using this
  · refine evneg (by omega) (evnow ?_)
    rw [eq_comm, decide_eq_false_iff_not]
    intro e; exact h (by rw [e])
theorem ev_eqTree (xs ys : List Int) (hb : xs.length ≤ 1152921504606846976) (hc : ys.length ≤ 1152921504606846976) : Ev (fun k => laws_eqTree.f k xs ys) (decide (xs = ys)) := by
  unfold laws_eqTree.f
  refine Ev.bind (ev_eqInt64S xs ys hb hc) ?_
  by_cases h : xs = ys
  · rw [decide_eq_true h]; exact evpos rfl (Ev.now _)
  · rw [decide_eq_false h]; exact evneg (by simp) (Ev.now _)
theorem szInt64S_eq (xs : List Int) (a : Int) (h0 : 0 ≤ a) (h1 : a ≤ 1048576) (hb : xs.length ≤ 9223372036854775807) : laws_szInt64S.f xs a = some (if a - xs.length < 0 then -1 else a - xs.length) := by
  unfold laws_szInt64S.f
  rw [Tr.wrap_id (by omega) (by omega)]
  split <;> rfl
theorem szTree_eq (xs : List Int) (a : Int) (h0 : 0 ≤ a) (h1 : a ≤ 1048576) (hb : xs.length ≤ 9223372036854775807) : laws_szTree.f xs a = some (if a - xs.length < 0 then -1 else a - xs.length) := by
  unfold laws_szTree.f
  rw [szInt64S_eq xs a h0 h1 hb]
  simp only [Option.bind_some]
  by_cases h : a - xs.length < 0
  · simp only [if_pos h]; rfl
  · simp only [if_neg h]
theorem ev_to_l0 (xs : List Int) (hb : xs.length ≤ 35184372088832) : ∀ (n i : Nat) (ys : List Int), i + n = xs.length → ys.length = xs.length → ys.take i = xs.take i →
    Ev (fun k => laws_toInt64S.l0 k xs ys (i : Nat)) xs := by
  intro n
  induction n with
  | zero =>
    intro i ys hi hy ht
    refine Ev_succ ?_
    simp only [laws_toInt64S.l0]
    refine evneg (by omega) (evnow ?_)
    rwa [List.take_of_length_le (by omega), List.take_of_length_le (by omega)] at ht
  | succ n ih =>
    intro i ys hi hy ht
    refine Ev_succ ?_
    simp only [laws_toInt64S.l0]
    refine evpos (by omega) (evpos (by omega) (evpos (by omega) ?_))
    have e : wrap64 ((i : Int) + 1) = ((i + 1 : Nat) : Int) := by rw [Tr.wrap_id (by omega) (by omega)]; omega
    rw [e, Tr.rd_getElem (by omega : i < xs.length), Int.toNat_natCast]
    refine ih (i + 1) _ (by omega) (by simp [hy]) ?_
    rw [List.take_succ_eq_append_getElem (by simp; omega), List.take_succ_eq_append_getElem (by omega)]
    simp [List.take_set_of_le, ht]
theorem ev_toInt64S (xs : List Int) (hb : xs.length ≤ 35184372088832) : Ev (fun k => laws_toInt64S.f k xs) xs := by
  unfold laws_toInt64S.f
  refine evpos (by omega) (evpos (by omega) ?_)
  have := ev_to_l0 xs hb xs.length 0 (List.replicate xs.length 0) (by omega) (by simp) (by simp)
  simpa using this
theorem ev_toTree (xs : List Int) (hb : xs.length ≤ 35184372088832) : Ev (fun k => laws_toTree.f k xs) xs := by
  unfold laws_toTree.f
  exact Ev.bind (ev_toInt64S xs hb) (Ev.now _)
/-- The numbers m, m + 1, .. -/
def up (m : Int) : Nat → List Int
  | 0 => []
  | n + 1 => m :: up (m + 1) n
theorem up_len (n : Nat) : ∀ m, (up m n).length = n := by
  induction n with
  | zero => intro m; rfl
  | succ n ih => intro m; simp [up, ih]
theorem up_get (n : Nat) : ∀ (m : Int) (i : Nat) (h : i < (up m n).length), (up m n)[i] = m + i := by
  induction n with
  | zero => intro m i h; simp [up] at h
  | succ n ih =>
    intro m i h
    cases i with
    | zero => simp [up]
    | succ i => simp only [up, List.getElem_cons_succ, ih]; omega
theorem ev_isTree_l0 : ∀ (l pre : List Int) (m : Int) (n : Int), n = ((pre ++ l).length : Int) → n ≤ 1000 → 0 ≤ m → m + 24 * l.length ≤ 100000 →
    Ev (fun k => impl_isTree.l0 k m (pre ++ l) n (pre.length : Int)) (Tr.ok l m) := by
  intro l
  induction l with
  | nil =>
    intro pre m n hn hb h0 h1
    refine Ev_succ ?_
    simp only [impl_isTree.l0]
    simp only [List.length_append, List.length_nil] at hn
    refine evneg (by omega) (evnow ?_)
    rfl
  | cons x l ih =>
    intro pre m n hn hb h0 h1
    refine Ev_succ ?_
    simp only [impl_isTree.l0]
    have hn' := hn
    simp only [List.length_append, List.length_cons] at hn h1 ⊢
    refine evpos (by omega) (evpos (by omega) (evpos (by simp; omega) ?_))
    have e : rd (pre ++ x :: l) (pre.length : Int) = x := by rw [Tr.rd_app0]; exact Tr.rd_cons0 _ _
    rw [e]
    by_cases hm : m = 0
    · refine evpos hm (evnow ?_); simp [Tr.ok, hm]
    · refine evneg hm ?_
      by_cases hx : x < 0
      · refine evpos hx (evnow ?_); simp [Tr.ok, hm, Int.not_le.mpr hx]
      · refine evneg hx ?_
        by_cases hy : x ≥ 24
        · refine evpos hy (evnow ?_); simp [Tr.ok, hm, Int.not_lt.mpr hy]
        · refine evneg hy ?_
          have e2 : wrap64 (m + wrap64 (x - 1)) = m - 1 + x := by rw [Tr.wrap_id (x := x - 1) (by omega) (by omega), Tr.wrap_id (by omega) (by omega)]; omega
          have e3 : wrap64 ((pre.length : Int) + 1) = ((pre ++ [x]).length : Int) := by rw [Tr.wrap_id (by omega) (by omega)]; simp
          rw [e2, e3]
          have := ih (pre ++ [x]) (m - 1 + x) n (by simp; omega) hb (by omega) (by omega)
          simp only [List.append_assoc, List.singleton_append] at this
          rw [show Tr.ok (x :: l) m = Tr.ok l (m - 1 + x) by
            have : (m != 0) = true := bne_iff_ne.mpr hm
            have h4 : decide (0 ≤ x) = true := decide_eq_true (by omega)
            have h5 : decide (x < 24) = true := decide_eq_true (by omega)
            simp only [Tr.ok, this, h4, h5, Bool.true_and]]
          exact this
theorem ev_isTree (d : List Int) : Ev (fun k => impl_isTree.f k d) (Tr.isT d) := by
  unfold impl_isTree.f
  by_cases h : (d.length : Int) < 1
  · refine evpos h (Ev_succ ?_)
    simp only [impl_isTree.j0]
    refine evpos (by simp) (evnow ?_)
    simp only [Tr.isT, decide_eq_false (by omega : ¬ 1 ≤ d.length), Bool.false_and]
  · refine evneg h (Ev_succ ?_)
    simp only [impl_isTree.j0]
    by_cases h2 : (d.length : Int) > 24
    · refine evpos (decide_eq_true h2) (evnow ?_)
      simp only [Tr.isT, decide_eq_false (by omega : ¬ d.length ≤ 24), Bool.false_and, Bool.and_false]
    · refine evneg (by simpa using h2) ?_
      have := ev_isTree_l0 d [] 1 d.length (by simp) (by omega) (by omega) (by omega)
      rw [show Tr.isT d = Tr.ok d 1 by simp only [Tr.isT, decide_eq_true (by omega : 1 ≤ d.length), decide_eq_true (by omega : d.length ≤ 24), Bool.true_and]]
      exact this
theorem ev_IsTree (d : List Int) : Ev (fun k => impl_IsTree.f k d) (Tr.isT d) := by
  unfold impl_IsTree.f
  exact Ev.bind (ev_isTree d) (Ev.now _)
theorem l01In_eq (a b c : Int) : spec_l01In.f a b c = some (decide (b ≤ a ∧ a ≤ c)) := by
  unfold spec_l01In.f
  by_cases h : a ≥ b
  · rw [if_pos h]; congr 1; simp; omega
  · rw [if_neg h]; congr 1; symm; simp; omega
theorem l01N_eq (d : List Int) : spec_l01N.f d = some (d.length : Int) := rfl
theorem ev_l01Is_l0 : ∀ (l pre : List Int) (m : Int), (pre ++ l).length ≤ 24 → 0 ≤ m → (m ≥ 1 ∨ True) → m + 25 * l.length ≤ 100000 →
    Ev (fun k => spec_l01Is.l0 k m (pre.length : Int) (pre ++ l)) (Tr.ok25 l m) := by
  intro l
  induction l with
  | nil =>
    intro pre m hb h0 _ h1
    refine Ev_succ ?_
    simp only [spec_l01Is.l0, List.length_append, List.length_nil]
    refine evneg (by omega) (evnow ?_)
    rfl
  | cons x l ih =>
    intro pre m hb h0 _ h1
    refine Ev_succ ?_
    simp only [spec_l01Is.l0]
    simp only [List.length_append, List.length_cons] at h1 hb ⊢
    refine evpos (by omega) ?_
    have e : rd (pre ++ x :: l) (pre.length : Int) = x := by rw [Tr.rd_app0]; exact Tr.rd_cons0 _ _
    rw [e, l01In_eq]
    by_cases hm : m = 0
    · refine evpos hm (evnow ?_); simp [Tr.ok25, hm]
    · refine evneg hm (evpos (by omega) (evsome ?_))
      by_cases hx : 0 ≤ x ∧ x ≤ 24
      · refine evpos (decide_eq_true hx) ?_
        have e2 : wrap64 (wrap64 (m - 1) + x) = m - 1 + x := by rw [Tr.wrap_id (x := m - 1) (by omega) (by omega), Tr.wrap_id (by omega) (by omega)]
        have e3 : wrap64 ((pre.length : Int) + 1) = ((pre ++ [x]).length : Int) := by rw [Tr.wrap_id (by omega) (by omega)]; simp
        rw [e2, e3]
        have := ih (pre ++ [x]) (m - 1 + x) (by simp; omega) (by omega) (.inr trivial) (by omega)
        simp only [List.append_assoc, List.singleton_append] at this
        rw [show Tr.ok25 (x :: l) m = Tr.ok25 l (m - 1 + x) by
          have : (m != 0) = true := bne_iff_ne.mpr hm
          simp only [Tr.ok25, this, decide_eq_true hx, Bool.true_and]]
        exact this
      · refine evneg (by simpa using hx) (evnow ?_)
        simp only [Tr.ok25, decide_eq_false hx, Bool.false_and, Bool.and_false]
theorem ev_l01Is (d : List Int) : Ev (fun k => spec_l01Is.f k d) (Tr.isT d) := by
  unfold spec_l01Is.f
  rw [l01N_eq]
  refine evsome ?_
  rw [l01In_eq]
  refine evsome ?_
  by_cases h : (1 : Int) ≤ (d.length : Int) ∧ (d.length : Int) ≤ 24
  · refine evpos (decide_eq_true h) ?_
    have := ev_l01Is_l0 d [] 1 (by simp; omega) (by omega) (.inr trivial) (by omega)
    rw [Tr.isT_eq25 d (by omega) (by omega)]
    exact this
  · refine evneg (by simpa using h) (evnow ?_)
    simp only [Tr.isT]
    by_cases h2 : 1 ≤ d.length
    · simp only [decide_eq_false (by omega : ¬ d.length ≤ 24), Bool.false_and, Bool.and_false]
    · simp only [decide_eq_false h2, Bool.false_and]
theorem ev_endOf_l0 (d : List Int) (hd : d.length ≤ 1000) (r : Int) : ∀ (g : Tr.F) (p j : Nat), Tr.Pl d p g → j + g.size ≤ 100000 →
    Ev (fun k => impl_endOf.l0 k d ((p + g.size : Nat) : Int) (j : Int)) r → Ev (fun k => impl_endOf.l0 k d (p : Int) ((g.len + j : Nat) : Int)) r := by
  intro g
  induction g with
  | nil => intro p j _ _ h; simpa [Tr.F.size, Tr.F.len] using h
  | cons b n hb hn =>
    intro p j hp hj h
    have hle := hp.le
    simp only [Tr.F.size] at hle hj
    have l1 := Tr.F.len_le b
    have l2 := Tr.F.len_le n
    refine Ev_succ ?_
    simp only [impl_endOf.l0, Tr.F.len]
    refine evpos (by omega) (evpos (by omega) (evpos (by omega) ?_))
    rw [hp.deg]
    have e : wrap64 ((p : Int) + 1) = ((p + 1 : Nat) : Int) := by rw [Tr.wrap_id (by omega) (by omega)]; omega
    have e2 : wrap64 (((1 + n.len + j : Nat) : Int) + wrap64 ((b.len : Int) - 1)) = ((b.len + (n.len + j) : Nat) : Int) := by
      rw [Tr.wrap_id (x := (b.len : Int) - 1) (by omega) (by omega), Tr.wrap_id (by omega) (by omega)]; omega
    rw [e, e2]
    refine hb (p + 1) (n.len + j) hp.below (by omega) ?_
    refine hn (p + 1 + b.size) j hp.next (by omega) ?_
    rw [show p + 1 + b.size + n.size = p + (Tr.F.cons b n).size by simp only [Tr.F.size]; omega]
    exact h
theorem ev_endOf {d : List Int} (hd : d.length ≤ 1000) {p : Nat} {b n : Tr.F} (h : Tr.Pl d p (.cons b n)) : Ev (fun k => impl_endOf.f k d (p : Int)) ((p + 1 + b.size : Nat) : Int) := by
  unfold impl_endOf.f
  have := ev_endOf_l0 d hd ((p + 1 + b.size : Nat) : Int) (.cons b .nil) p 0 h.one (by have := h.le; simp only [Tr.F.size] at this ⊢; omega)
  simp only [Tr.F.len, Tr.F.size] at this
  refine this ?_
  refine Ev_succ ?_
  simp only [impl_endOf.l0]
  refine evneg (by omega) (evnow (by omega))
theorem ev_l01End_l0 (d : List Int) (hd : d.length ≤ 1000) (r : Int) : ∀ (g : Tr.F) (p j : Nat), Tr.Pl d p g → j + g.size ≤ 100000 →
    Ev (fun k => spec_l01End.l0 k ((p + g.size : Nat) : Int) (j : Int) d) r → Ev (fun k => spec_l01End.l0 k (p : Int) ((g.len + j : Nat) : Int) d) r := by
  intro g
  induction g with
  | nil => intro p j _ _ h; simpa [Tr.F.size, Tr.F.len] using h
  | cons b n hb hn =>
    intro p j hp hj h
    have hle := hp.le
    simp only [Tr.F.size] at hle hj
    have l1 := Tr.F.len_le b
    have l2 := Tr.F.len_le n
    refine Ev_succ ?_
    simp only [spec_l01End.l0, Tr.F.len]
    refine evpos (by omega) (evpos (by omega) (evpos (by omega) ?_))
    rw [hp.deg]
    have e : wrap64 ((p : Int) + 1) = ((p + 1 : Nat) : Int) := by rw [Tr.wrap_id (by omega) (by omega)]; omega
    have e2 : wrap64 (wrap64 (((1 + n.len + j : Nat) : Int) - 1) + (b.len : Int)) = ((b.len + (n.len + j) : Nat) : Int) := by
      rw [Tr.wrap_id (x := ((1 + n.len + j : Nat) : Int) - 1) (by omega) (by omega), Tr.wrap_id (by omega) (by omega)]; omega
    rw [e, e2]
    refine hb (p + 1) (n.len + j) hp.below (by omega) ?_
    refine hn (p + 1 + b.size) j hp.next (by omega) ?_
    rw [show p + 1 + b.size + n.size = p + (Tr.F.cons b n).size by simp only [Tr.F.size]; omega]
    exact h
theorem ev_l01End {d : List Int} (hd : d.length ≤ 1000) {p : Nat} {b n : Tr.F} (h : Tr.Pl d p (.cons b n)) : Ev (fun k => spec_l01End.f k d (p : Int)) ((p + 1 + b.size : Nat) : Int) := by
  unfold spec_l01End.f
  have := ev_l01End_l0 d hd ((p + 1 + b.size : Nat) : Int) (.cons b .nil) p 0 h.one (by have := h.le; simp only [Tr.F.size] at this ⊢; omega)
  simp only [Tr.F.len, Tr.F.size] at this
  refine this ?_
  refine Ev_succ ?_
  simp only [spec_l01End.l0]
  refine evneg (by omega) (evnow (by omega))
theorem ev_treeCode_l0 (d : List Int) (hd : d.length ≤ 1000) : ∀ (l pre : List Int) (N : Int), N = ((pre ++ l).length : Int) → N ≤ 100000000 →
    Ev (fun k => impl_treeCode.l0 k (pre ++ l) N (pre.length : Int) d) (Tr.nodesCode d.length l) := by
  intro l
  induction l with
  | nil =>
    intro pre N hN hb
    refine Ev_succ ?_
    simp only [impl_treeCode.l0]
    simp only [List.length_append, List.length_nil] at hN
    exact evneg (by omega) (evnow rfl)
  | cons v l ih =>
    intro pre N hN hb
    refine Ev_succ ?_
    simp only [impl_treeCode.l0]
    have hN' := hN
    simp only [List.length_append, List.length_cons] at hN
    have e : rd (pre ++ v :: l) (pre.length : Int) = v := by rw [Tr.rd_app0]; exact Tr.rd_cons0 _ _
    refine evpos (by omega) (evpos (by omega) (evpos (by simp; omega) ?_))
    rw [e]
    by_cases h0 : v < 0
    · refine evpos h0 (evnow ?_)
      simp only [Tr.nodesCode]; rw [if_neg (by omega)]
    · refine evneg h0 ?_
      by_cases h1 : v ≥ d.length
      · refine evpos h1 (evnow ?_)
        simp only [Tr.nodesCode]; rw [if_neg (by omega)]
      · refine evneg h1 ?_
        have e3 : wrap64 ((pre.length : Int) + 1) = ((pre ++ [v]).length : Int) := by rw [Tr.wrap_id (by omega) (by omega)]; simp
        rw [e3]
        have := ih (pre ++ [v]) N (by simp only [hN', List.append_assoc, List.singleton_append]) hb
        simp only [List.append_assoc, List.singleton_append] at this
        rw [show Tr.nodesCode d.length (v :: l) = Tr.nodesCode d.length l by simp only [Tr.nodesCode]; rw [if_pos (by omega)]]
        exact this
theorem ev_treeCode (d l : List Int) (hl : l.length ≤ 100000000) : Ev (fun k => impl_treeCode.f k d l) (Tr.codeT d l) := by
  unfold impl_treeCode.f Tr.codeT
  refine Ev.bind (ev_IsTree d) ?_
  by_cases h : Tr.isT d = true
  · rw [h]
    obtain ⟨b, _, hb, hd, _⟩ := Tr.isT_at h
    refine evpos rfl ?_
    have := ev_treeCode_l0 d (by omega) l [] l.length (by simp) (by omega)
    exact this
  · rw [if_neg h]
    exact evneg h (Ev.now _)
theorem ev_areTrees_l0 : ∀ (l pre : List S30) (N : Int), N = ((pre ++ l).length : Int) → N ≤ 100000000 → Ev (fun k => impl_areTrees.l0 k (pre ++ l) N (pre.length : Int)) (l.all fun s => Tr.isT s.f0) := by
  intro l
  induction l with
  | nil =>
    intro pre N hN hb
    refine Ev_succ ?_
    simp only [impl_areTrees.l0]
    simp only [List.length_append, List.length_nil] at hN
    exact evneg (by omega) (evnow rfl)
  | cons s l ih =>
    intro pre N hN hb
    have hN' := hN
    simp only [List.length_append, List.length_cons] at hN
    refine Ev_succ ?_
    simp only [impl_areTrees.l0]
    have e : rd_T30 (pre ++ s :: l) (pre.length : Int) = s := by unfold rd_T30; simp [List.getD_eq_getElem?_getD]
    have e3 : wrap64 ((pre.length : Int) + 1) = ((pre ++ [s]).length : Int) := by rw [Tr.wrap_id (by omega) (by omega)]; simp
    refine evpos (by omega) (evpos (by omega) (evpos (by simp; omega) ?_))
    rw [e, e3]
    refine Ev.bind (ev_IsTree s.f0) ?_
    cases h : Tr.isT s.f0 with
    | true =>
      refine evpos rfl ?_
      have := ih (pre ++ [s]) N (by rw [hN']; simp) hb
      simpa [h] using this
    | false => exact evneg (by simp) (evnow (by simp [h]))
theorem ev_areTrees (l : List S30) (h : l.length ≤ 100000000) : Ev (fun k => impl_areTrees.f k l) (l.all fun s => Tr.isT s.f0) := by
  unfold impl_areTrees.f
  exact ev_areTrees_l0 l [] l.length (by simp) (by omega)
theorem deg_range {d : List Int} {t : Tr.F} (h : Tr.Tree d t) {v : Nat} (hv : v < t.size) : 0 ≤ rd d (v : Int) ∧ rd d (v : Int) ≤ 24 := by
  have h1 := h.deg hv
  have h2 := h.fits hv
  have h3 := Tr.F.len_le (t.sub v)
  have h4 := h.few
  omega
def takeOutL (d : List Int) (t : Tr.F) (v : Nat) : List Int := (d.take v ++ d.drop (v + 1)).set (t.par 0 (-1) v).toNat (rd d (t.par 0 (-1) v) + rd d (v : Int) - 1)
theorem rd_take {d : List Int} {v p : Nat} (h : p < v) (hv : v ≤ d.length) : rd (d.take v) (p : Int) = rd d (p : Int) := by
  have e : rd d (p : Int) = rd (d.take v ++ d.drop v) (p : Int) := by rw [List.take_append_drop]
  rw [e, Tr.rd_left _ _ _ (by omega) (by simp; omega)]
theorem ev_eqSS_l0 (xs : List (List Int)) (hl : xs.length ≤ 1000) (hx : ∀ x ∈ xs, x.length ≤ 1000) : ∀ (n i : Nat), i + n = xs.length → Ev (fun k => laws_eqInt64SS.l0 k xs xs (i : Int)) true := by
  intro n
  induction n with
  | zero =>
    intro i hi
    refine Ev_succ ?_
    simp only [laws_eqInt64SS.l0]
    exact evneg (by omega) (Ev.now _)
  | succ n ih =>
    intro i hi
    have hil : i < xs.length := by omega
    have hr : (rd_L1 xs (i : Int)).length ≤ 1000 := by
      unfold rd_L1
      rw [Int.toNat_natCast, List.getD_eq_getElem?_getD, List.getElem?_eq_getElem hil]
      exact hx _ (List.getElem_mem hil)
    refine Ev_succ ?_
    simp only [laws_eqInt64SS.l0]
    rw [Tr.wrap_succ (by omega)]
    exact evpos (by omega) (evpos (by omega) (evpos (by omega) (Ev.bind (ev_eqInt64S _ _ (by omega) (by omega)) (evpos (by simp) (ih (i + 1) (by omega))))))
theorem ev_eqInt64SS (xs : List (List Int)) (hl : xs.length ≤ 1000) (hx : ∀ x ∈ xs, x.length ≤ 1000) : Ev (fun k => laws_eqInt64SS.f k xs xs) true := by
  unfold laws_eqInt64SS.f
  exact evpos rfl (ev_eqSS_l0 xs hl hx xs.length 0 (by omega))
theorem ev_szSS_l0 : ∀ (l pre : List (List Int)) (a : Int), (pre ++ l).length ≤ 1048576 → (∀ x ∈ l, x.length ≤ 9223372036854775807) → 0 ≤ a → a ≤ 1048576 →
    ∃ v, Ev (fun k => laws_szInt64SS.l0 k (pre ++ l) a (pre.length : Int)) v ∧ (v < 0 ∨ ∀ x ∈ l, (x.length : Int) ≤ 1048576) := by
  intro l
  induction l with
  | nil =>
    intro pre a hl _ h0 h1
    refine ⟨a, Ev_succ ?_, .inr (by simp)⟩
    simp only [laws_szInt64SS.l0]
    exact evneg (by simp) (Ev.now _)
  | cons x l ih =>
    intro pre a hl hx h0 h1
    have hl' := hl
    simp only [List.length_append, List.length_cons] at hl
    have e1 : rd_L1 (pre ++ x :: l) (pre.length : Int) = x := by unfold rd_L1; simp
    have e3 : wrap64 ((pre.length : Int) + 1) = ((pre.length + 1 : Nat) : Int) := Tr.wrap_succ (by omega)
    have hxl := hx x (List.mem_cons_self ..)
    by_cases hs : a - (x.length : Int) < 0
    · refine ⟨-1, Ev_succ ?_, .inl (by omega)⟩
      simp only [laws_szInt64SS.l0]
      rw [e1, szInt64S_eq x a h0 h1 hxl, if_pos hs]
      exact evpos (by simp; omega) (evpos (by omega) (evsome (evpos (by omega) (Ev.now _))))
    · obtain ⟨v, h2, h3⟩ := ih (pre ++ [x]) (a - x.length) (by simpa using hl') (fun y hy => hx y (List.mem_cons_of_mem _ hy)) (by omega) (by omega)
      rw [List.length_append, List.length_singleton] at h2
      refine ⟨v, Ev_succ ?_, ?_⟩
      · simp only [laws_szInt64SS.l0]
        rw [e1, szInt64S_eq x a h0 h1 hxl, if_neg hs, e3]
        refine evpos (by simp; omega) (evpos (by omega) (evsome (evneg hs ?_)))
        simpa using h2
      · rcases h3 with h3 | h3
        · exact .inl h3
        · refine .inr (fun y hy => ?_)
          rcases List.mem_cons.1 hy with rfl | hy
          · omega
          · exact h3 y hy
theorem ev_szInt64SS (l : List (List Int)) (a : Int) (hl : l.length ≤ 9223372036854775807) (hx : ∀ x ∈ l, x.length ≤ 9223372036854775807) (h0 : 0 ≤ a) (h1 : a ≤ 1048576) : ∃ v, Ev (fun k => laws_szInt64SS.f k l a) v ∧ (v < 0 ∨ (l.length ≤ 1048576 ∧ ∀ x ∈ l, (x.length : Int) ≤ 1048576)) := by
  have e : wrap64 (a - (l.length : Int)) = a - l.length := Tr.wrap_id (by omega) (by omega)
  by_cases hs : a - (l.length : Int) < 0
  · refine ⟨-1, ?_, .inl (by omega)⟩
    unfold laws_szInt64SS.f
    rw [e]
    exact evpos hs (Ev.now _)
  · obtain ⟨v, h2, h3⟩ := ev_szSS_l0 l [] (a - l.length) (by simp; omega) hx (by omega) (by omega)
    refine ⟨v, ?_, ?_⟩
    · unfold laws_szInt64SS.f
      rw [e]
      exact evneg hs (by simpa using h2)
    · rcases h3 with h3 | h3
      · exact .inl h3
      · exact .inr ⟨by omega, h3⟩
theorem ev_toSS_l0 : ∀ (l pre : List (List Int)), (pre ++ l).length ≤ 1048576 → (∀ x ∈ l, (x.length : Int) ≤ 1048576) →
    Ev (fun k => laws_toInt64SS.l0 k (pre ++ l) (pre ++ List.replicate l.length []) (pre.length : Int)) (pre ++ l) := by
  intro l
  induction l with
  | nil =>
    intro pre hl _
    refine Ev_succ ?_
    simp only [laws_toInt64SS.l0]
    exact evneg (by simp) (evnow (by simp))
  | cons x l ih =>
    intro pre hl hx
    have hl' := hl
    simp only [List.length_append, List.length_cons] at hl
    have e1 : rd_L1 (pre ++ x :: l) (pre.length : Int) = x := by unfold rd_L1; simp
    have e3 : wrap64 ((pre.length : Int) + 1) = ((pre.length + 1 : Nat) : Int) := Tr.wrap_succ (by omega)
    have e4 : (pre ++ List.replicate (x :: l).length ([] : List Int)).set ((pre.length : Int)).toNat x = (pre ++ [x]) ++ List.replicate l.length [] := by
      simp [List.replicate_succ]
    have hxl := hx x (List.mem_cons_self ..)
    refine Ev_succ ?_
    simp only [laws_toInt64SS.l0]
    rw [e1, e3]
    refine evpos (by simp; omega) (evpos (by omega) (Ev.bind (ev_toInt64S x (by omega)) (evpos (by simp; omega) ?_)))
    rw [e4]
    have := ih (pre ++ [x]) (by simpa using hl') (fun y hy => hx y (List.mem_cons_of_mem _ hy))
    rw [List.length_append, List.length_singleton] at this
    simpa using this
theorem ev_toInt64SS (l : List (List Int)) (hl : l.length ≤ 1048576) (hx : ∀ x ∈ l, (x.length : Int) ≤ 1048576) : Ev (fun k => laws_toInt64SS.f k l) l := by
  unfold laws_toInt64SS.f
  have := ev_toSS_l0 l [] (by simpa using hl) hx
  refine evpos (by omega) (evpos (by omega) ?_)
  rw [Int.toNat_natCast]
  simpa using this
theorem ev_eqSSb_l0 (xs : List (List Int)) (hl : xs.length ≤ 1048576) (hx : ∀ x ∈ xs, (x.length : Int) ≤ 1048576) : ∀ (n i : Nat), i + n = xs.length → Ev (fun k => laws_eqInt64SS.l0 k xs xs (i : Int)) true := by
  intro n
  induction n with
  | zero =>
    intro i hi
    refine Ev_succ ?_
    simp only [laws_eqInt64SS.l0]
    exact evneg (by omega) (Ev.now _)
  | succ n ih =>
    intro i hi
    have hil : i < xs.length := by omega
    have hr : ((rd_L1 xs (i : Int)).length : Int) ≤ 1048576 := by
      unfold rd_L1
      rw [Int.toNat_natCast, List.getD_eq_getElem?_getD, List.getElem?_eq_getElem hil]
      exact hx _ (List.getElem_mem hil)
    refine Ev_succ ?_
    simp only [laws_eqInt64SS.l0]
    rw [Tr.wrap_succ (by omega)]
    exact evpos (by omega) (evpos (by omega) (evpos (by omega) (Ev.bind (ev_eqInt64S _ _ (by omega) (by omega)) (evpos (by simp) (ih (i + 1) (by omega))))))
theorem ev_eqInt64SSb (xs : List (List Int)) (hl : xs.length ≤ 1048576) (hx : ∀ x ∈ xs, (x.length : Int) ≤ 1048576) : Ev (fun k => laws_eqInt64SS.f k xs xs) true := by
  unfold laws_eqInt64SS.f
  exact evpos rfl (ev_eqSSb_l0 xs hl hx xs.length 0 (by omega))
def abv (t : Tr.F) (v x : Int) : Bool := decide (x > v ∧ x < ((v.toNat + 1 + (t.sub v.toNat).size : Nat) : Int))
def blw (t : Tr.F) (v w : Int) : Bool := decide (v ≥ w ∧ v < ((w.toNat + 1 + (t.sub w.toNat).size : Nat) : Int))
theorem ev_above {d : List Int} {t : Tr.F} (h : Tr.Tree d t) {v : Int} (h0 : 0 ≤ v) (h1 : v < t.size) (x : Int) : Ev (fun k => spec_l07Above.f k d v x) (abv t v x) := by
  have hle := h.le
  obtain ⟨u, rfl⟩ := Int.eq_ofNat_of_zero_le h0
  obtain ⟨n, hp⟩ := h.node (v := u) (by omega)
  unfold spec_l07Above.f abv
  rw [Int.toNat_natCast]
  by_cases hx : x > (u : Int)
  · refine evpos hx (Ev.bind (ev_l01End (by omega) hp) (evnow ?_))
    simp only [hx, true_and]
  · refine evneg hx (evnow ?_)
    rw [decide_eq_false (fun q => hx q.1)]
theorem ev_below {d : List Int} {t : Tr.F} (h : Tr.Tree d t) {w : Int} (h0 : 0 ≤ w) (h1 : w < t.size) (v : Int) : Ev (fun k => impl_isBelow.f k d v w) (blw t v w) := by
  have hle := h.le
  obtain ⟨u, rfl⟩ := Int.eq_ofNat_of_zero_le h0
  obtain ⟨n, hp⟩ := h.node (v := u) (by omega)
  unfold impl_isBelow.f blw
  rw [Int.toNat_natCast]
  by_cases hx : v ≥ (u : Int)
  · refine evpos hx (Ev.bind (ev_endOf (by omega) hp) (evnow ?_))
    simp only [hx, true_and]
  · refine evneg hx (evnow ?_)
    rw [decide_eq_false (fun q => hx q.1)]
def vp (n m : Nat) (p : List Int) : Bool := decide (p.length = 2 ∧ (0 ≤ rd p 0 ∧ rd p 0 < n) ∧ (0 ≤ rd p 1 ∧ rd p 1 < m))
def conS (t u : Tr.F) (L : List (List Int)) (i k : Nat) : Bool :=
  decide (rd (rd_L1 L (i : Int)) 0 = rd (rd_L1 L (k : Int)) 0) || (decide (rd (rd_L1 L (i : Int)) 1 = rd (rd_L1 L (k : Int)) 1) || ((decide (rd (rd_L1 L (i : Int)) 0 < rd (rd_L1 L (k : Int)) 0) != decide (rd (rd_L1 L (i : Int)) 1 < rd (rd_L1 L (k : Int)) 1)) || (abv t (rd (rd_L1 L (i : Int)) 0) (rd (rd_L1 L (k : Int)) 0) != abv u (rd (rd_L1 L (i : Int)) 1) (rd (rd_L1 L (k : Int)) 1))))
def conI (t u : Tr.F) (L : List (List Int)) (i k : Nat) : Bool :=
  decide (rd (rd_L1 L (i : Int)) 0 = rd (rd_L1 L (k : Int)) 0) || (decide (rd (rd_L1 L (i : Int)) 1 = rd (rd_L1 L (k : Int)) 1) || ((decide (rd (rd_L1 L (i : Int)) 0 < rd (rd_L1 L (k : Int)) 0) != decide (rd (rd_L1 L (i : Int)) 1 < rd (rd_L1 L (k : Int)) 1)) || (blw t (rd (rd_L1 L (i : Int)) 0) (rd (rd_L1 L (k : Int)) 0) != blw u (rd (rd_L1 L (i : Int)) 1) (rd (rd_L1 L (k : Int)) 1))))
def okIn (c : Nat → Nat → Bool) (i : Nat) : Nat → Nat → Bool
  | 0, _ => true
  | m + 1, k => (decide (i = k) || !c i k) && okIn c i m (k + 1)
def okOut (c : Nat → Nat → Bool) (n : Nat) : Nat → Nat → Bool
  | 0, _ => true
  | m + 1, i => okIn c i n 0 && okOut c n m (i + 1)
theorem okIn_iff (c : Nat → Nat → Bool) (i : Nat) : ∀ m k, okIn c i m k = true ↔ ∀ j, k ≤ j → j < k + m → i ≠ j → c i j = false := by
  intro m
  induction m with
  | zero => intro k; simp only [okIn, true_iff]; intro j h1 h2; omega
  | succ m ih =>
    intro k
    simp only [okIn, Bool.and_eq_true, Bool.or_eq_true, decide_eq_true_eq, Bool.not_eq_true', ih]
    constructor
    · rintro ⟨h1, h2⟩ j hj1 hj2 hne
      by_cases e : j = k
      · subst e
        rcases h1 with h1 | h1
        · exact absurd h1 hne
        · exact h1
      · exact h2 j (by omega) (by omega) hne
    · intro h
      refine ⟨?_, fun j h1 h2 hne => h j (by omega) (by omega) hne⟩
      by_cases e : i = k
      · exact .inl e
      · exact .inr (h k (Nat.le_refl _) (by omega) e)
theorem okOut_iff (c : Nat → Nat → Bool) (n : Nat) : ∀ m i, okOut c n m i = true ↔ ∀ a b, i ≤ a → a < i + m → b < n → a ≠ b → c a b = false := by
  intro m
  induction m with
  | zero => intro i; simp only [okOut, true_iff]; intro a b h1 h2; omega
  | succ m ih =>
    intro i
    simp only [okOut, Bool.and_eq_true, okIn_iff, ih]
    constructor
    · rintro ⟨h1, h2⟩ a b ha1 ha2 hb hne
      by_cases e : a = i
      · subst e; exact h1 b (Nat.zero_le _) (by omega) hne
      · exact h2 a b (by omega) (by omega) hb hne
    · intro h
      exact ⟨fun j _ hj hne => h i j (Nat.le_refl _) (by omega) (by omega) hne, fun a b h1 h2 hb hne => h a b (by omega) (by omega) hb hne⟩
theorem con_side {t u : Tr.F} {L : List (List Int)} {i k : Nat} (h1 : conS t u L i k = false) (h2 : conS t u L k i = false) : conI t u L i k = false := by
  unfold conS at h1 h2
  unfold conI
  simp only [Bool.or_eq_false_iff, decide_eq_false_iff_not, bne_eq_false_iff_eq] at h1 h2 ⊢
  obtain ⟨a1, a2, a3, a4⟩ := h1
  obtain ⟨_, _, _, b4⟩ := h2
  refine ⟨a1, a2, a3, ?_⟩
  generalize rd (rd_L1 L (i : Int)) 0 = p0 at *
  generalize rd (rd_L1 L (k : Int)) 0 = q0 at *
  generalize rd (rd_L1 L (i : Int)) 1 = p1 at *
  generalize rd (rd_L1 L (k : Int)) 1 = q1 at *
  have e1 : blw t p0 q0 = abv t q0 p0 := by
    unfold blw abv
    congr 1
    rw [eq_iff_iff]
    constructor
    · rintro ⟨h, h'⟩; exact ⟨by omega, h'⟩
    · rintro ⟨h, h'⟩; exact ⟨by omega, h'⟩
  have e2 : blw u p1 q1 = abv u q1 p1 := by
    unfold blw abv
    congr 1
    rw [eq_iff_iff]
    constructor
    · rintro ⟨h, h'⟩; exact ⟨by omega, h'⟩
    · rintro ⟨h, h'⟩; exact ⟨by omega, h'⟩
  rw [e1, e2, b4]
theorem con_back {t u : Tr.F} {L : List (List Int)} {i k : Nat} (h1 : conI t u L i k = false) (h2 : conI t u L k i = false) : conS t u L i k = false := by
  unfold conI at h1 h2
  unfold conS
  simp only [Bool.or_eq_false_iff, decide_eq_false_iff_not, bne_eq_false_iff_eq] at h1 h2 ⊢
  obtain ⟨a1, a2, a3, a4⟩ := h1
  obtain ⟨_, _, _, b4⟩ := h2
  refine ⟨a1, a2, a3, ?_⟩
  generalize rd (rd_L1 L (i : Int)) 0 = p0 at *
  generalize rd (rd_L1 L (k : Int)) 0 = q0 at *
  generalize rd (rd_L1 L (i : Int)) 1 = p1 at *
  generalize rd (rd_L1 L (k : Int)) 1 = q1 at *
  have e1 : blw t q0 p0 = abv t p0 q0 := by
    unfold blw abv
    congr 1
    rw [eq_iff_iff]
    constructor
    · rintro ⟨h, h'⟩; exact ⟨by omega, h'⟩
    · rintro ⟨h, h'⟩; exact ⟨by omega, h'⟩
  have e2 : blw u q1 p1 = abv u p1 q1 := by
    unfold blw abv
    congr 1
    rw [eq_iff_iff]
    constructor
    · rintro ⟨h, h'⟩; exact ⟨by omega, h'⟩
    · rintro ⟨h, h'⟩; exact ⟨by omega, h'⟩
  rw [← e1, ← e2, b4]
theorem ok_same (t u : Tr.F) (L : List (List Int)) (n : Nat) : okOut (conS t u L) n n 0 = okOut (conI t u L) n n 0 := by
  rw [Bool.eq_iff_iff, okOut_iff, okOut_iff]
  constructor
  · intro h a b h1 h2 h3 hne
    exact con_side (h a b h1 h2 h3 hne) (h b a (Nat.zero_le _) (by omega) (by omega) (fun e => hne e.symm))
  · intro h a b h1 h2 h3 hne
    exact con_back (h a b h1 h2 h3 hne) (h b a (Nat.zero_le _) (by omega) (by omega) (fun e => hne e.symm))
theorem vp_at {n m : Nat} {L : List (List Int)} (h : L.all (vp n m) = true) {i : Nat} (hi : i < L.length) : (rd_L1 L (i : Int)).length = 2 ∧ (0 ≤ rd (rd_L1 L (i : Int)) 0 ∧ rd (rd_L1 L (i : Int)) 0 < n) ∧ (0 ≤ rd (rd_L1 L (i : Int)) 1 ∧ rd (rd_L1 L (i : Int)) 1 < m) := by
  have hm : rd_L1 L (i : Int) ∈ L := by
    unfold rd_L1
    rw [Int.toNat_natCast, List.getD_eq_getElem?_getD, List.getElem?_eq_getElem hi]
    exact List.getElem_mem hi
  have := List.all_eq_true.1 h _ hm
  unfold vp at this
  simpa using this
theorem ev_DoAgree_s2 {d e : List Int} {t u : Tr.F} (h : Tr.Tree d t) (g : Tr.Tree e u) {L : List (List Int)} (hL : L.length ≤ 24) (hv : L.all (vp t.size u.size) = true) {i : Nat} (hi : i < L.length) {R : Bool} (hR : Ev (fun k => spec_DoAgree.l1 k L ((i + 1 : Nat) : Int) d e) (R, 0)) : ∀ (m kk : Nat), kk + m = L.length →
    Ev (fun k => spec_DoAgree.l2 k L (i : Int) (kk : Int) d e) (okIn (conS t u L) i m kk && R, 0) := by
  obtain ⟨a1, a2, a3⟩ := vp_at hv hi
  intro m
  induction m with
  | zero =>
    intro kk hk
    refine Ev_succ ?_
    simp only [spec_DoAgree.l2, okIn, Bool.true_and]
    rw [show wrap64 ((i : Int) + 1) = ((i + 1 : Nat) : Int) from Tr.wrap_succ (by omega)]
    exact evneg (by omega) hR
  | succ m ih =>
    intro kk hk
    obtain ⟨b1, b2, b3⟩ := vp_at hv (show kk < L.length by omega)
    have go := ih (kk + 1) (by omega)
    have stop : ∀ x : Bool, conS t u L i kk = x → i ≠ kk → Ev (fun k => spec_DoAgree.j5 k L (i : Int) (kk : Int) x d e) (okIn (conS t u L) i (m + 1) kk && R, 0) := by
      intro x hx hne
      refine Ev_succ ?_
      simp only [spec_DoAgree.j5, okIn]
      rw [hx, decide_eq_false hne]
      cases x with
      | true => exact evpos rfl (evnow (by simp))
      | false =>
        rw [show wrap64 ((kk : Int) + 1) = ((kk + 1 : Nat) : Int) from Tr.wrap_succ (by omega)]
        refine evneg (by simp) ?_
        simpa using go
    refine Ev_succ ?_
    simp only [spec_DoAgree.l2]
    refine evpos (by omega) (evpos (by omega) (evpos (by omega) (evpos (by omega) (evpos (by omega) (evpos (by omega) (evpos (by omega) (evpos (by omega) ?_)))))))
    by_cases hik : i = kk
    · refine evpos (by omega) (Ev_succ ?_)
      simp only [spec_DoAgree.j5, okIn]
      rw [decide_eq_true hik, show wrap64 ((kk : Int) + 1) = ((kk + 1 : Nat) : Int) from Tr.wrap_succ (by omega)]
      refine evneg (by simp) ?_
      simpa using go
    · refine evneg (by omega) ?_
      have hab := ev_above h a2.1 a2.2 (rd (rd_L1 L (kk : Int)) 0)
      have hab2 := ev_above g a3.1 a3.2 (rd (rd_L1 L (kk : Int)) 1)
      unfold conS at stop
      generalize rd (rd_L1 L (i : Int)) 0 = p0 at *
      generalize rd (rd_L1 L (kk : Int)) 0 = q0 at *
      generalize rd (rd_L1 L (i : Int)) 1 = p1 at *
      generalize rd (rd_L1 L (kk : Int)) 1 = q1 at *
      by_cases h1 : p0 = q0
      · exact evpos h1 (stop true (by simp [h1]) hik)
      · refine evneg h1 ?_
        by_cases h2 : p1 = q1
        · exact evpos h2 (stop true (by simp [h2]) hik)
        · refine evneg h2 ?_
          by_cases h3 : (decide (p0 < q0) != decide (p1 < q1)) = true
          · exact evpos h3 (stop true (by rw [h3]; simp) hik)
          · refine evneg h3 (Ev.bind hab (Ev.bind hab2 (stop _ ?_ hik)))
            rw [Bool.eq_false_iff.2 h3, decide_eq_false h1, decide_eq_false h2]; simp
theorem ev_DoAgree_s1 {d e : List Int} {t u : Tr.F} (h : Tr.Tree d t) (g : Tr.Tree e u) {L : List (List Int)} (hL : L.length ≤ 24) (hv : L.all (vp t.size u.size) = true) : ∀ (m i : Nat), i + m = L.length → Ev (fun k => spec_DoAgree.l1 k L (i : Int) d e) (okOut (conS t u L) L.length m i, 0) := by
  intro m
  induction m with
  | zero =>
    intro i hi
    refine Ev_succ ?_
    simp only [spec_DoAgree.l1, okOut]
    exact evneg (by omega) (Ev.now _)
  | succ m ih =>
    intro i hi
    refine Ev_succ ?_
    simp only [spec_DoAgree.l1, okOut]
    exact evpos (by omega) (ev_DoAgree_s2 h g hL hv (by omega) (ih (i + 1) (by omega)) L.length 0 (by omega))
theorem ev_DoAgree_i2 {d e : List Int} {t u : Tr.F} (h : Tr.Tree d t) (g : Tr.Tree e u) {L : List (List Int)} (hL : L.length ≤ 24) (hv : L.all (vp t.size u.size) = true) {i : Nat} (hi : i < L.length) {R : Bool} (hR : Ev (fun k => impl_DoAgree.l1 k L L (L.length : Int) ((i + 1 : Nat) : Int) d e) (R, 0)) : ∀ (m kk : Nat), kk + m = L.length →
    Ev (fun k => impl_DoAgree.l2 k L (i : Int) (rd_L1 L (i : Int)) L (L.length : Int) (i : Int) L (L.length : Int) (kk : Int) d e) (okIn (conI t u L) i m kk && R, 0) := by
  obtain ⟨a1, a2, a3⟩ := vp_at hv hi
  intro m
  induction m with
  | zero =>
    intro kk hk
    refine Ev_succ ?_
    simp only [impl_DoAgree.l2, okIn, Bool.true_and]
    rw [show wrap64 ((i : Int) + 1) = ((i + 1 : Nat) : Int) from Tr.wrap_succ (by omega)]
    exact evneg (by omega) hR
  | succ m ih =>
    intro kk hk
    obtain ⟨b1, b2, b3⟩ := vp_at hv (show kk < L.length by omega)
    have go := ih (kk + 1) (by omega)
    have stop : ∀ x : Bool, conI t u L i kk = x → i ≠ kk → Ev (fun k => impl_DoAgree.j4 k L (i : Int) (rd_L1 L (i : Int)) L (L.length : Int) (i : Int) L (L.length : Int) (kk : Int) x d e) (okIn (conI t u L) i (m + 1) kk && R, 0) := by
      intro x hx hne
      refine Ev_succ ?_
      simp only [impl_DoAgree.j4, okIn]
      rw [hx, decide_eq_false hne]
      cases x with
      | true => exact evpos rfl (evnow (by simp))
      | false =>
        rw [show wrap64 ((kk : Int) + 1) = ((kk + 1 : Nat) : Int) from Tr.wrap_succ (by omega)]
        refine evneg (by simp) ?_
        simpa using go
    refine Ev_succ ?_
    simp only [impl_DoAgree.l2]
    refine evpos (by omega) (evpos (by omega) (evpos (by omega) ?_))
    by_cases hik : i = kk
    · refine evpos (by omega) ?_
      rw [show wrap64 ((kk : Int) + 1) = ((kk + 1 : Nat) : Int) from Tr.wrap_succ (by omega)]
      simp only [okIn]
      rw [decide_eq_true hik]
      simpa using go
    · refine evneg (by omega) (evpos (by omega) (evpos (by omega) ?_))
      have hab := ev_below h b2.1 b2.2 (rd (rd_L1 L (i : Int)) 0)
      have hab2 := ev_below g b3.1 b3.2 (rd (rd_L1 L (i : Int)) 1)
      unfold conI at stop
      by_cases h1 : rd (rd_L1 L (i : Int)) 0 = rd (rd_L1 L (kk : Int)) 0
      · exact evpos h1 (stop true (by simp [h1]) hik)
      · refine evneg h1 (evpos (by omega) (evpos (by omega) ?_))
        by_cases h2 : rd (rd_L1 L (i : Int)) 1 = rd (rd_L1 L (kk : Int)) 1
        · exact evpos h2 (stop true (by simp [h2]) hik)
        · refine evneg h2 ?_
          by_cases h3 : (decide (rd (rd_L1 L (i : Int)) 0 < rd (rd_L1 L (kk : Int)) 0) != decide (rd (rd_L1 L (i : Int)) 1 < rd (rd_L1 L (kk : Int)) 1)) = true
          · exact evpos h3 (stop true (by rw [h3]; simp) hik)
          · refine evneg h3 (Ev.bind hab (Ev.bind hab2 (stop _ ?_ hik)))
            rw [Bool.eq_false_iff.2 h3, decide_eq_false h1, decide_eq_false h2]; simp
theorem ev_DoAgree_i1 {d e : List Int} {t u : Tr.F} (h : Tr.Tree d t) (g : Tr.Tree e u) {L : List (List Int)} (hL : L.length ≤ 24) (hv : L.all (vp t.size u.size) = true) : ∀ (m i : Nat), i + m = L.length → Ev (fun k => impl_DoAgree.l1 k L L (L.length : Int) (i : Int) d e) (okOut (conI t u L) L.length m i, 0) := by
  intro m
  induction m with
  | zero =>
    intro i hi
    refine Ev_succ ?_
    simp only [impl_DoAgree.l1, okOut]
    exact evneg (by omega) (Ev.now _)
  | succ m ih =>
    intro i hi
    refine Ev_succ ?_
    simp only [impl_DoAgree.l1, okOut]
    exact evpos (by omega) (evpos (by omega) (evpos (by omega) (ev_DoAgree_i2 h g hL hv (by omega) (ih (i + 1) (by omega)) L.length 0 (by omega))))
theorem ev_DoAgree_s0 {d e : List Int} {t u : Tr.F} (h : Tr.Tree d t) (g : Tr.Tree e u) {R : Bool × Int} : ∀ (l pre : List (List Int)), (pre ++ l).length ≤ 1048576 →
    (l.all (vp t.size u.size) = true → Ev (fun k => if ((pre ++ l).length : Int) > 24 then some (false, 2) else spec_DoAgree.l1 k (pre ++ l) 0 d e) R) →
    Ev (fun k => spec_DoAgree.l0 k (pre ++ l) (pre.length : Int) d e) (if l.all (vp t.size u.size) = true then R else (false, 2)) := by
  have hle := h.le
  have hlen := h.len
  have hle2 := g.le
  have hlen2 := g.len
  intro l
  induction l with
  | nil =>
    intro pre hl hR
    refine Ev_succ ?_
    simp only [spec_DoAgree.l0]
    rw [if_pos (by rfl)]
    exact evneg (by simp) (hR rfl)
  | cons x l ih =>
    intro pre hl hR
    have hl' := hl
    simp only [List.length_append, List.length_cons] at hl
    have e1 : rd_L1 (pre ++ x :: l) (pre.length : Int) = x := by unfold rd_L1; simp
    have e3 : wrap64 ((pre.length : Int) + 1) = ((pre.length + 1 : Nat) : Int) := Tr.wrap_succ (by omega)
    have bad : vp t.size u.size x = false → Ev (fun k => spec_DoAgree.j2 k (pre ++ x :: l) (pre.length : Int) true d e) (if (x :: l).all (vp t.size u.size) = true then R else (false, 2)) := by
      intro hx
      refine Ev_succ ?_
      simp only [spec_DoAgree.j2]
      rw [if_neg (by simp [hx])]
      exact evpos trivial (Ev.now _)
    have good : vp t.size u.size x = true → Ev (fun k => spec_DoAgree.j2 k (pre ++ x :: l) (pre.length : Int) false d e) (if (x :: l).all (vp t.size u.size) = true then R else (false, 2)) := by
      intro hx
      have := ih (pre ++ [x]) (by simpa using hl') (fun q => by
        have := hR (by simp only [List.all_cons, hx, Bool.true_and]; exact q)
        simpa using this)
      refine Ev_succ ?_
      simp only [spec_DoAgree.j2]
      rw [e3]
      refine evneg (by simp) ?_
      rw [List.length_append, List.length_singleton] at this
      simp only [List.all_cons, hx, Bool.true_and]
      simpa using this
    refine Ev_succ ?_
    simp only [spec_DoAgree.l0]
    rw [e1]
    refine evpos (by simp; omega) (evpos (by omega) ?_)
    by_cases h2 : x.length = 2
    · refine evpos (by omega) (evpos (by omega) ?_)
      rw [l01N_eq, l01N_eq]
      refine evsome ?_
      rw [l01In_eq, Tr.wrap_id (by omega) (by omega)]
      refine evsome ?_
      by_cases h3 : 0 ≤ rd x 0 ∧ rd x 0 ≤ (d.length : Int) - 1
      · refine evpos (by simpa using h3) (evpos (by omega) (evsome ?_))
        rw [l01In_eq, Tr.wrap_id (by omega) (by omega)]
        refine evsome ?_
        by_cases h4 : 0 ≤ rd x 1 ∧ rd x 1 ≤ (e.length : Int) - 1
        · rw [decide_eq_true h4]
          exact good (by unfold vp; rw [decide_eq_true_eq]; omega)
        · rw [decide_eq_false h4]
          exact bad (by unfold vp; rw [decide_eq_false_iff_not]; omega)
      · exact evneg (by simpa using h3) (bad (by unfold vp; rw [decide_eq_false_iff_not]; omega))
    · exact evneg (by omega) (bad (by unfold vp; rw [decide_eq_false_iff_not]; omega))
theorem ev_DoAgree_i0 {d e : List Int} {t u : Tr.F} (h : Tr.Tree d t) (g : Tr.Tree e u) {R : Bool × Int} (N : Int) : ∀ (l pre : List (List Int)), N = ((pre ++ l).length : Int) → (pre ++ l).length ≤ 1048576 →
    (l.all (vp t.size u.size) = true → Ev (fun k => impl_DoAgree.l1 k (pre ++ l) (pre ++ l) N 0 d e) R) →
    Ev (fun k => impl_DoAgree.l0 k (pre ++ l) (pre ++ l) N (pre.length : Int) d e) (if l.all (vp t.size u.size) = true then R else (false, 2)) := by
  have hle := h.le
  have hlen := h.len
  have hle2 := g.le
  have hlen2 := g.len
  intro l
  induction l with
  | nil =>
    intro pre hN hl hR
    refine Ev_succ ?_
    simp only [impl_DoAgree.l0]
    rw [if_pos (by rfl)]
    refine evneg (by rw [hN]; simp) ?_
    rw [← hN]
    exact hR rfl
  | cons x l ih =>
    intro pre hN hl hR
    have hl' := hl
    have hN' := hN
    simp only [List.length_append, List.length_cons] at hl hN
    have e1 : rd_L1 (pre ++ x :: l) (pre.length : Int) = x := by unfold rd_L1; simp
    have e3 : wrap64 ((pre.length : Int) + 1) = ((pre.length + 1 : Nat) : Int) := Tr.wrap_succ (by omega)
    have bad : vp t.size u.size x = false → Ev (fun k => impl_DoAgree.j1 k (pre ++ x :: l) (pre ++ x :: l) N (pre.length : Int) true d e) (if (x :: l).all (vp t.size u.size) = true then R else (false, 2)) := by
      intro hx
      refine Ev_succ ?_
      simp only [impl_DoAgree.j1]
      rw [if_neg (by simp [hx])]
      exact evpos trivial (Ev.now _)
    have good : vp t.size u.size x = true → Ev (fun k => impl_DoAgree.j1 k (pre ++ x :: l) (pre ++ x :: l) N (pre.length : Int) false d e) (if (x :: l).all (vp t.size u.size) = true then R else (false, 2)) := by
      intro hx
      have := ih (pre ++ [x]) (by rw [hN']; simp) (by simpa using hl') (fun q => by
        have := hR (by simp only [List.all_cons, hx, Bool.true_and]; exact q)
        simpa using this)
      refine Ev_succ ?_
      simp only [impl_DoAgree.j1]
      rw [e3]
      refine evneg (by simp) ?_
      rw [List.length_append, List.length_singleton] at this
      simp only [List.all_cons, hx, Bool.true_and]
      simpa using this
    have hc : ∀ (dd : List Int), Tr.isT dd = true → ∀ v : Int, Tr.codeT dd [v] = if 0 ≤ v ∧ v < dd.length then 0 else 2 := by
      intro dd hd v
      unfold Tr.codeT
      rw [if_pos hd]
      simp only [Tr.nodesCode]
    refine Ev_succ ?_
    simp only [impl_DoAgree.l0]
    rw [e1]
    refine evpos (by omega) (evpos (by omega) (evpos (by simp; omega) ?_))
    by_cases h2 : x.length = 2
    · refine evpos (by omega) (evpos (by omega) (Ev.bind (ev_treeCode d [rd x 0] (by simp)) ?_))
      rw [hc d h.isT]
      by_cases h3 : 0 ≤ rd x 0 ∧ rd x 0 < (d.length : Int)
      · rw [if_pos h3]
        refine evpos rfl (evpos (by omega) (Ev.bind (ev_treeCode e [rd x 1] (by simp)) ?_))
        rw [hc e g.isT]
        by_cases h4 : 0 ≤ rd x 1 ∧ rd x 1 < (e.length : Int)
        · rw [if_pos h4]
          exact good (by unfold vp; rw [decide_eq_true_eq]; omega)
        · rw [if_neg h4]
          exact bad (by unfold vp; rw [decide_eq_false_iff_not]; omega)
      · rw [if_neg h3]
        exact evneg (by omega) (bad (by unfold vp; rw [decide_eq_false_iff_not]; omega))
    · exact evneg (by omega) (bad (by unfold vp; rw [decide_eq_false_iff_not]; omega))
theorem ev_DoAgree (d e : List Int) (L : List (List Int)) (hL : L.length ≤ 1048576) : ∃ r : Bool × Int, Ev (fun k => spec_DoAgree.f k d e L) r ∧ Ev (fun k => impl_DoAgree.f k d e L) r := by
  have hare : Ev (fun k => impl_areTrees.f k [(⟨d⟩ : S30), (⟨e⟩ : S30)]) (Tr.isT d && Tr.isT e) := by
    have := ev_areTrees [(⟨d⟩ : S30), (⟨e⟩ : S30)] (by simp)
    simpa using this
  rcases Tr.isT_cases d with h | ⟨t, h⟩
  · refine ⟨(false, 1), ?_, ?_⟩
    · unfold spec_DoAgree.f
      refine Ev.bind (ev_l01Is d) (evneg (by simp [h]) (Ev_succ ?_))
      simp only [spec_DoAgree.j0]
      exact evpos trivial (Ev.now _)
    · unfold impl_DoAgree.f
      exact Ev.bind hare (evneg (by simp [h]) (Ev.now _))
  rcases Tr.isT_cases e with g | ⟨u, g⟩
  · refine ⟨(false, 1), ?_, ?_⟩
    · unfold spec_DoAgree.f
      refine Ev.bind (ev_l01Is d) (evpos h.isT (Ev.bind (ev_l01Is e) (Ev_succ ?_)))
      simp only [spec_DoAgree.j0]
      exact evpos (by simp [g]) (Ev.now _)
    · unfold impl_DoAgree.f
      exact Ev.bind hare (evneg (by simp [g]) (Ev.now _))
  have hare2 : (Tr.isT d && Tr.isT e) = true := by rw [h.isT, g.isT]; rfl
  have goS : ∀ r, Ev (fun k => spec_DoAgree.l0 k L 0 d e) r → Ev (fun k => spec_DoAgree.f k d e L) r := by
    intro r hr
    unfold spec_DoAgree.f
    refine Ev.bind (ev_l01Is d) (evpos h.isT (Ev.bind (ev_l01Is e) (Ev_succ ?_)))
    simp only [spec_DoAgree.j0]
    exact evneg (by simp [g.isT]) hr
  by_cases h24 : (L.length : Int) > 24
  · refine ⟨(false, 2), goS _ ?_, ?_⟩
    · have := ev_DoAgree_s0 h g (R := (false, 2)) L [] (by simpa using hL) (fun _ => evpos (by simpa using h24) (Ev.now _))
      simpa using this
    · unfold impl_DoAgree.f
      exact Ev.bind hare (evpos hare2 (evpos h24 (Ev.now _)))
  · refine ⟨if L.all (vp t.size u.size) = true then (okOut (conS t u L) L.length L.length 0, 0) else (false, 2), goS _ ?_, ?_⟩
    · have := ev_DoAgree_s0 h g (R := (okOut (conS t u L) L.length L.length 0, 0)) L [] (by simpa using hL) (fun q => evneg (by simpa using h24) (ev_DoAgree_s1 (L := L) h g (by omega) q L.length 0 (by omega)))
      simpa using this
    · unfold impl_DoAgree.f
      refine Ev.bind hare (evpos hare2 (evneg h24 ?_))
      rw [ok_same]
      have := ev_DoAgree_i0 h g (R := (okOut (conI t u L) L.length L.length 0, 0)) (L.length : Int) L [] (by simp) (by simpa using hL) (fun q => ev_DoAgree_i1 (L := L) h g (by omega) q L.length 0 (by omega))
      simpa using this
theorem pure_FnExactDoAgree (l0 l1 : List Int) (l2 : List (List Int)) (hl0 : l0.length ≤ maxLen) (_ : ∀ x ∈ l0, (Lit.int .i64 x).wf = true) (hl1 : l1.length ≤ maxLen) (_ : ∀ x ∈ l1, (Lit.int .i64 x).wf = true) (hl2 : l2.length ≤ maxLen) (hx2 : ∀ x ∈ l2, x.length ≤ maxLen) : ∃ k, laws_FnExactDoAgree.f k l0 l1 l2 = some true := by
  unfold maxLen at hl0 hl1 hl2 hx2
  refine Ev.rounds ?_
  unfold laws_FnExactDoAgree.f
  rw [szTree_eq l0 (1048576) (by omega) (by omega) (by omega)]
  refine evsome ?_
  by_cases hs0 : (1048576 : Int) - l0.length < 0
  · rw [if_pos hs0]; exact evpos (by omega) (Ev.now _)
  rw [if_neg hs0]
  refine evneg hs0 ?_
  rw [szTree_eq l1 (1048576 - l0.length) (by omega) (by omega) (by omega)]
  refine evsome ?_
  by_cases hs1 : (1048576 : Int) - l0.length - l1.length < 0
  · rw [if_pos hs1]; exact evpos (by omega) (Ev.now _)
  rw [if_neg hs1]
  refine evneg hs1 ?_
  obtain ⟨v, hv, hv2⟩ := ev_szInt64SS l2 (1048576 - l0.length - l1.length) (by omega) (fun x hx => by have := hx2 x hx; omega) (by omega) (by omega)
  refine Ev.bind hv ?_
  by_cases hs2 : v < 0
  · exact evpos hs2 (Ev.now _)
  refine evneg hs2 ?_
  obtain ⟨hq1, hq2⟩ := hv2.resolve_left hs2
  obtain ⟨r, hq, hi⟩ := ev_DoAgree l0 l1 l2 hq1
  have ht0 := ev_toTree l0 (by omega)
  have ht1 := ev_toTree l1 (by omega)
  have ht2 := ev_toInt64SS l2 hq1 hq2
  refine Ev.bind ht0 (Ev.bind ht1 (Ev.bind ht2 (Ev.bind hq (Ev.bind ht0 (Ev.bind ht1 (Ev.bind ht2 (Ev.bind hi ?_)))))))
  refine evneg (by simp) (evpos rfl ?_)
  refine Ev.bind ht0 (Ev.bind (ev_eqTree l0 l0 (by omega) (by omega)) (evpos (by simp) ?_))
  refine Ev.bind ht1 (Ev.bind (ev_eqTree l1 l1 (by omega) (by omega)) (evpos (by simp) ?_))
  exact Ev.bind ht2 (Ev.bind (ev_eqInt64SSb l2 hq1 hq2) (evpos rfl (Ev.now _)))
end Go.Proofs.Ytpahhheekobneaa.QFnExactDoAgree
