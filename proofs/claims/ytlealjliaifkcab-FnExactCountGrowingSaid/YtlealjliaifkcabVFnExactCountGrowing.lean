import Derived.Test.YtlealjliaifkcabQFnExactCountGrowingx
import Derived.Test.YtlealjliaifkcabTr
import Derived.Test.YtlealjliaifkcabNd
import Derived.Test.YtlealjliaifkcabGr
import Derived.Test.YtlealjliaifkcabIx
import Derived.Test.YtlealjliaifkcabCt
namespace Go.Proofs.Ytlealjliaifkcab.QFnExactCountGrowing
open Go.RowKit Go.Proofs.YtlealjliaifkcabW.PrintWords Go.Proofs.YtlealjliaifkcabW.PrintLast Go.Proofs.YtlealjliaifkcabW.PrintMore Go.Proofs.Ytlealjliaifkcab
set_option linter.unusedVariables false
set_option linter.unusedSimpArgs false
theorem Ev_succ {α : Type} {g : Nat → Option α} {r : α} (h : Ev (fun k => g (k + 1)) r) : Ev g r := Ev.step (fun _ => rfl) h
theorem evpos {α : Type} {c : Prop} [Decidable c] {f g : Nat → Option α} {r : α} (h : c) (k : Ev f r) : Ev (fun n => if c then f n else g n) r := by
  simp only [if_pos h]; exact k
theorem evneg {α : Type} {c : Prop} [Decidable c] {f g : Nat → Option α} {r : α} (h : ¬ c) (k : Ev g r) : Ev (fun n => if c then f n else g n) r := by
  simp only [if_neg h]; exact k
theorem evsome {α β : Type} {a : α} {f : Nat → α → Option β} {r : β} (k : Ev (fun n => f n a) r) : Ev (fun n => (some a).bind (f n)) r := k
theorem evnow {α : Type} {a r : α} (h : a = r) : Ev (fun _ => some a) r := by subst h; exact Ev.now _
theorem ev_eq_l0 (xs ys : List Int) (hl : xs.length = ys.length) (hb : xs.length ≤ 1152921504606846976) : ∀ (n i : Nat), i + n = xs.length →
    Ev (fun k => laws_eqInt64S.l0 k xs ys (i : Nat)) (decide (xs.drop i = ys.drop i)) := by
  intro n
  induction n with
  | zero =>
    intro i hi
    refine Ev_succ ?_
    simp only [laws_eqInt64S.l0]
    refine evneg (by omega) (evnow ?_)
    rw [List.drop_of_length_le (by omega), List.drop_of_length_le (by omega)]; rfl
  | succ n ih =>
    intro i hi
    refine Ev_succ ?_
    simp only [laws_eqInt64S.l0]
    refine evpos (by omega) (evpos (by omega) (evpos (by omega) ?_))
    rw [Tr.rd_getElem (by omega : i < xs.length), Tr.rd_getElem (by omega : i < ys.length)]
    have e : wrap64 ((i : Int) + 1) = ((i + 1 : Nat) : Int) := by rw [Tr.wrap_id (by omega) (by omega)]; omega
    rw [e]
    have e3 : (xs.drop i = ys.drop i) = (xs[i] = ys[i] ∧ xs.drop (i + 1) = ys.drop (i + 1)) := by
      rw [List.drop_eq_getElem_cons (by omega : i < xs.length), List.drop_eq_getElem_cons (by omega : i < ys.length)]
      exact List.cons.injEq _ _ _ _
    have e4 : decide (xs.drop i = ys.drop i) = decide (xs[i] = ys[i] ∧ xs.drop (i + 1) = ys.drop (i + 1)) := by simp only [e3]
    rw [e4]
    by_cases h : xs[i] = ys[i]
    · refine evpos h ?_
      have := ih (i + 1) (by omega)
      rw [show decide (xs[i] = ys[i] ∧ xs.drop (i + 1) = ys.drop (i + 1)) = decide (xs.drop (i + 1) = ys.drop (i + 1)) by simp only [h, true_and]]
      exact this
    · refine evneg h (evnow ?_)
      simp only [h, false_and, decide_false]
theorem ev_eqInt64S (xs ys : List Int) (hb : xs.length ≤ 1152921504606846976) (hc : ys.length ≤ 1152921504606846976) : Ev (fun k => laws_eqInt64S.f k xs ys) (decide (xs = ys)) := by
  unfold laws_eqInt64S.f
  by_cases h : xs.length = ys.length
  · refine evpos (by omega) ?_
    have := ev_eq_l0 xs ys h hb xs.length 0 (by omega)
    simpa using this
  · refine evneg (by omega) (evnow ?_)
    rw [eq_comm, decide_eq_false_iff_not]
    intro e; exact h (by rw [e])
theorem ev_eqTree (xs ys : List Int) (hb : xs.length ≤ 1152921504606846976) (hc : ys.length ≤ 1152921504606846976) : Ev (fun k => laws_eqTree.f k xs ys) (decide (xs = ys)) := by
  unfold laws_eqTree.f
  refine Ev.bind (ev_eqInt64S xs ys hb hc) ?_
  by_cases h : xs = ys
  · rw [decide_eq_true h]; exact evpos rfl (Ev.now _)
  · rw [decide_eq_false h]; exact evneg (by simp) (Ev.now _)
theorem szInt64S_eq (xs : List Int) (a : Int) (h0 : 0 ≤ a) (h1 : a ≤ 1048576) (hb : xs.length ≤ 9223372036854775807) : laws_szInt64S.f xs a = some (if a - xs.length < 0 then -1 else a - xs.length) := by
  unfold laws_szInt64S.f
  rw [Tr.wrap_id (by omega) (by omega)]
  split <;> rfl
theorem szTree_eq (xs : List Int) (a : Int) (h0 : 0 ≤ a) (h1 : a ≤ 1048576) (hb : xs.length ≤ 9223372036854775807) : laws_szTree.f xs a = some (if a - xs.length < 0 then -1 else a - xs.length) := by
  unfold laws_szTree.f
  rw [szInt64S_eq xs a h0 h1 hb]
  simp only [Option.bind_some]
  by_cases h : a - xs.length < 0
  · simp only [if_pos h]; rfl
  · simp only [if_neg h]
theorem ev_to_l0 (xs : List Int) (hb : xs.length ≤ 35184372088832) : ∀ (n i : Nat) (ys : List Int), i + n = xs.length → ys.length = xs.length → ys.take i = xs.take i →
    Ev (fun k => laws_toInt64S.l0 k xs ys (i : Nat)) xs := by
  intro n
  induction n with
  | zero =>
    intro i ys hi hy ht
    refine Ev_succ ?_
    simp only [laws_toInt64S.l0]
    refine evneg (by omega) (evnow ?_)
    rwa [List.take_of_length_le (by omega), List.take_of_length_le (by omega)] at ht
  | succ n ih =>
    intro i ys hi hy ht
    refine Ev_succ ?_
    simp only [laws_toInt64S.l0]
    refine evpos (by omega) (evpos (by omega) (evpos (by omega) ?_))
    have e : wrap64 ((i : Int) + 1) = ((i + 1 : Nat) : Int) := by rw [Tr.wrap_id (by omega) (by omega)]; omega
    rw [e, Tr.rd_getElem (by omega : i < xs.length), Int.toNat_natCast]
    refine ih (i + 1) _ (by omega) (by simp [hy]) ?_
    rw [List.take_succ_eq_append_getElem (by simp; omega), List.take_succ_eq_append_getElem (by omega)]
    simp [List.take_set_of_le, ht]
theorem ev_toInt64S (xs : List Int) (hb : xs.length ≤ 35184372088832) : Ev (fun k => laws_toInt64S.f k xs) xs := by
  unfold laws_toInt64S.f
  refine evpos (by omega) (evpos (by omega) ?_)
  have := ev_to_l0 xs hb xs.length 0 (List.replicate xs.length 0) (by omega) (by simp) (by simp)
  simpa using this
theorem ev_toTree (xs : List Int) (hb : xs.length ≤ 35184372088832) : Ev (fun k => laws_toTree.f k xs) xs := by
  unfold laws_toTree.f
  exact Ev.bind (ev_toInt64S xs hb) (Ev.now _)
/-- The numbers m, m + 1, .. -/
def up (m : Int) : Nat → List Int
  | 0 => []
  | n + 1 => m :: up (m + 1) n
theorem up_len (n : Nat) : ∀ m, (up m n).length = n := by
  induction n with
  | zero => intro m; rfl
  | succ n ih => intro m; simp [up, ih]
theorem up_get (n : Nat) : ∀ (m : Int) (i : Nat) (h : i < (up m n).length), (up m n)[i] = m + i := by
  induction n with
  | zero => intro m i h; simp [up] at h
  | succ n ih =>
    intro m i h
    cases i with
    | zero => simp [up]
    | succ i => simp only [up, List.getElem_cons_succ, ih]; omega
theorem ev_isTree_l0 : ∀ (l pre : List Int) (m : Int) (n : Int), n = ((pre ++ l).length : Int) → n ≤ 1000 → 0 ≤ m → m + 24 * l.length ≤ 100000 →
    Ev (fun k => impl_isTree.l0 k m (pre ++ l) n (pre.length : Int)) (Tr.ok l m) := by
  intro l
  induction l with
  | nil =>
    intro pre m n hn hb h0 h1
    refine Ev_succ ?_
    simp only [impl_isTree.l0]
    simp only [List.length_append, List.length_nil] at hn
    refine evneg (by omega) (evnow ?_)
    rfl
  | cons x l ih =>
    intro pre m n hn hb h0 h1
    refine Ev_succ ?_
    simp only [impl_isTree.l0]
    have hn' := hn
    simp only [List.length_append, List.length_cons] at hn h1 ⊢
    refine evpos (by omega) (evpos (by omega) (evpos (by simp; omega) ?_))
    have e : rd (pre ++ x :: l) (pre.length : Int) = x := by rw [Tr.rd_app0]; exact Tr.rd_cons0 _ _
    rw [e]
    by_cases hm : m = 0
    · refine evpos hm (evnow ?_); simp [Tr.ok, hm]
    · refine evneg hm ?_
      by_cases hx : x < 0
      · refine evpos hx (evnow ?_); simp [Tr.ok, hm, Int.not_le.mpr hx]
      · refine evneg hx ?_
        by_cases hy : x ≥ 24
        · refine evpos hy (evnow ?_); simp [Tr.ok, hm, Int.not_lt.mpr hy]
        · refine evneg hy ?_
          have e2 : wrap64 (m + wrap64 (x - 1)) = m - 1 + x := by rw [Tr.wrap_id (x := x - 1) (by omega) (by omega), Tr.wrap_id (by omega) (by omega)]; omega
          have e3 : wrap64 ((pre.length : Int) + 1) = ((pre ++ [x]).length : Int) := by rw [Tr.wrap_id (by omega) (by omega)]; simp
          rw [e2, e3]
          have := ih (pre ++ [x]) (m - 1 + x) n (by simp; omega) hb (by omega) (by omega)
          simp only [List.append_assoc, List.singleton_append] at this
          rw [show Tr.ok (x :: l) m = Tr.ok l (m - 1 + x) by
            have : (m != 0) = true := bne_iff_ne.mpr hm
            have h4 : decide (0 ≤ x) = true := decide_eq_true (by omega)
            have h5 : decide (x < 24) = true := decide_eq_true (by omega)
            simp only [Tr.ok, this, h4, h5, Bool.true_and]]
          exact this
theorem ev_isTree (d : List Int) : Ev (fun k => impl_isTree.f k d) (Tr.isT d) := by
  unfold impl_isTree.f
  by_cases h : (d.length : Int) < 1
  · refine evpos h (Ev_succ ?_)
    simp only [impl_isTree.j0]
    refine evpos (by simp) (evnow ?_)
    simp only [Tr.isT, decide_eq_false (by omega : ¬ 1 ≤ d.length), Bool.false_and]
  · refine evneg h (Ev_succ ?_)
    simp only [impl_isTree.j0]
    by_cases h2 : (d.length : Int) > 24
    · refine evpos (decide_eq_true h2) (evnow ?_)
      simp only [Tr.isT, decide_eq_false (by omega : ¬ d.length ≤ 24), Bool.false_and, Bool.and_false]
    · refine evneg (by simpa using h2) ?_
      have := ev_isTree_l0 d [] 1 d.length (by simp) (by omega) (by omega) (by omega)
      rw [show Tr.isT d = Tr.ok d 1 by simp only [Tr.isT, decide_eq_true (by omega : 1 ≤ d.length), decide_eq_true (by omega : d.length ≤ 24), Bool.true_and]]
      exact this
theorem ev_IsTree (d : List Int) : Ev (fun k => impl_IsTree.f k d) (Tr.isT d) := by
  unfold impl_IsTree.f
  exact Ev.bind (ev_isTree d) (Ev.now _)
theorem l01In_eq (a b c : Int) : spec_l01In.f a b c = some (decide (b ≤ a ∧ a ≤ c)) := by
  unfold spec_l01In.f
  by_cases h : a ≥ b
  · rw [if_pos h]; congr 1; simp; omega
  · rw [if_neg h]; congr 1; symm; simp; omega
theorem l01N_eq (d : List Int) : spec_l01N.f d = some (d.length : Int) := rfl
theorem ev_l01Is_l0 : ∀ (l pre : List Int) (m : Int), (pre ++ l).length ≤ 24 → 0 ≤ m → (m ≥ 1 ∨ True) → m + 25 * l.length ≤ 100000 →
    Ev (fun k => spec_l01Is.l0 k m (pre.length : Int) (pre ++ l)) (Tr.ok25 l m) := by
  intro l
  induction l with
  | nil =>
    intro pre m hb h0 _ h1
    refine Ev_succ ?_
    simp only [spec_l01Is.l0, List.length_append, List.length_nil]
    refine evneg (by omega) (evnow ?_)
    rfl
  | cons x l ih =>
    intro pre m hb h0 _ h1
    refine Ev_succ ?_
    simp only [spec_l01Is.l0]
    simp only [List.length_append, List.length_cons] at h1 hb ⊢
    refine evpos (by omega) ?_
    have e : rd (pre ++ x :: l) (pre.length : Int) = x := by rw [Tr.rd_app0]; exact Tr.rd_cons0 _ _
    rw [e, l01In_eq]
    by_cases hm : m = 0
    · refine evpos hm (evnow ?_); simp [Tr.ok25, hm]
    · refine evneg hm (evpos (by omega) (evsome ?_))
      by_cases hx : 0 ≤ x ∧ x ≤ 24
      · refine evpos (decide_eq_true hx) ?_
        have e2 : wrap64 (wrap64 (m - 1) + x) = m - 1 + x := by rw [Tr.wrap_id (x := m - 1) (by omega) (by omega), Tr.wrap_id (by omega) (by omega)]
        have e3 : wrap64 ((pre.length : Int) + 1) = ((pre ++ [x]).length : Int) := by rw [Tr.wrap_id (by omega) (by omega)]; simp
        rw [e2, e3]
        have := ih (pre ++ [x]) (m - 1 + x) (by simp; omega) (by omega) (.inr trivial) (by omega)
        simp only [List.append_assoc, List.singleton_append] at this
        rw [show Tr.ok25 (x :: l) m = Tr.ok25 l (m - 1 + x) by
          have : (m != 0) = true := bne_iff_ne.mpr hm
          simp only [Tr.ok25, this, decide_eq_true hx, Bool.true_and]]
        exact this
      · refine evneg (by simpa using hx) (evnow ?_)
        simp only [Tr.ok25, decide_eq_false hx, Bool.false_and, Bool.and_false]
theorem ev_l01Is (d : List Int) : Ev (fun k => spec_l01Is.f k d) (Tr.isT d) := by
  unfold spec_l01Is.f
  rw [l01N_eq]
  refine evsome ?_
  rw [l01In_eq]
  refine evsome ?_
  by_cases h : (1 : Int) ≤ (d.length : Int) ∧ (d.length : Int) ≤ 24
  · refine evpos (decide_eq_true h) ?_
    have := ev_l01Is_l0 d [] 1 (by simp; omega) (by omega) (.inr trivial) (by omega)
    rw [Tr.isT_eq25 d (by omega) (by omega)]
    exact this
  · refine evneg (by simpa using h) (evnow ?_)
    simp only [Tr.isT]
    by_cases h2 : 1 ≤ d.length
    · simp only [decide_eq_false (by omega : ¬ d.length ≤ 24), Bool.false_and, Bool.and_false]
    · simp only [decide_eq_false h2, Bool.false_and]
theorem ev_endOf_l0 (d : List Int) (hd : d.length ≤ 1000) (r : Int) : ∀ (g : Tr.F) (p j : Nat), Tr.Pl d p g → j + g.size ≤ 100000 →
    Ev (fun k => impl_endOf.l0 k d ((p + g.size : Nat) : Int) (j : Int)) r → Ev (fun k => impl_endOf.l0 k d (p : Int) ((g.len + j : Nat) : Int)) r := by
  intro g
  induction g with
  | nil => intro p j _ _ h; simpa [Tr.F.size, Tr.F.len] using h
  | cons b n hb hn =>
    intro p j hp hj h
    have hle := hp.le
    simp only [Tr.F.size] at hle hj
    have l1 := Tr.F.len_le b
    have l2 := Tr.F.len_le n
    refine Ev_succ ?_
    simp only [impl_endOf.l0, Tr.F.len]
    refine evpos (by omega) (evpos (by omega) (evpos (by omega) ?_))
    rw [hp.deg]
    have e : wrap64 ((p : Int) + 1) = ((p + 1 : Nat) : Int) := by rw [Tr.wrap_id (by omega) (by omega)]; omega
    have e2 : wrap64 (((1 + n.len + j : Nat) : Int) + wrap64 ((b.len : Int) - 1)) = ((b.len + (n.len + j) : Nat) : Int) := by
      rw [Tr.wrap_id (x := (b.len : Int) - 1) (by omega) (by omega), Tr.wrap_id (by omega) (by omega)]; omega
    rw [e, e2]
    refine hb (p + 1) (n.len + j) hp.below (by omega) ?_
    refine hn (p + 1 + b.size) j hp.next (by omega) ?_
    rw [show p + 1 + b.size + n.size = p + (Tr.F.cons b n).size by simp only [Tr.F.size]; omega]
    exact h
theorem ev_endOf {d : List Int} (hd : d.length ≤ 1000) {p : Nat} {b n : Tr.F} (h : Tr.Pl d p (.cons b n)) : Ev (fun k => impl_endOf.f k d (p : Int)) ((p + 1 + b.size : Nat) : Int) := by
  unfold impl_endOf.f
  have := ev_endOf_l0 d hd ((p + 1 + b.size : Nat) : Int) (.cons b .nil) p 0 h.one (by have := h.le; simp only [Tr.F.size] at this ⊢; omega)
  simp only [Tr.F.len, Tr.F.size] at this
  refine this ?_
  refine Ev_succ ?_
  simp only [impl_endOf.l0]
  refine evneg (by omega) (evnow (by omega))
theorem ev_l01End_l0 (d : List Int) (hd : d.length ≤ 1000) (r : Int) : ∀ (g : Tr.F) (p j : Nat), Tr.Pl d p g → j + g.size ≤ 100000 →
    Ev (fun k => spec_l01End.l0 k ((p + g.size : Nat) : Int) (j : Int) d) r → Ev (fun k => spec_l01End.l0 k (p : Int) ((g.len + j : Nat) : Int) d) r := by
  intro g
  induction g with
  | nil => intro p j _ _ h; simpa [Tr.F.size, Tr.F.len] using h
  | cons b n hb hn =>
    intro p j hp hj h
    have hle := hp.le
    simp only [Tr.F.size] at hle hj
    have l1 := Tr.F.len_le b
    have l2 := Tr.F.len_le n
    refine Ev_succ ?_
    simp only [spec_l01End.l0, Tr.F.len]
    refine evpos (by omega) (evpos (by omega) (evpos (by omega) ?_))
    rw [hp.deg]
    have e : wrap64 ((p : Int) + 1) = ((p + 1 : Nat) : Int) := by rw [Tr.wrap_id (by omega) (by omega)]; omega
    have e2 : wrap64 (wrap64 (((1 + n.len + j : Nat) : Int) - 1) + (b.len : Int)) = ((b.len + (n.len + j) : Nat) : Int) := by
      rw [Tr.wrap_id (x := ((1 + n.len + j : Nat) : Int) - 1) (by omega) (by omega), Tr.wrap_id (by omega) (by omega)]; omega
    rw [e, e2]
    refine hb (p + 1) (n.len + j) hp.below (by omega) ?_
    refine hn (p + 1 + b.size) j hp.next (by omega) ?_
    rw [show p + 1 + b.size + n.size = p + (Tr.F.cons b n).size by simp only [Tr.F.size]; omega]
    exact h
theorem ev_l01End {d : List Int} (hd : d.length ≤ 1000) {p : Nat} {b n : Tr.F} (h : Tr.Pl d p (.cons b n)) : Ev (fun k => spec_l01End.f k d (p : Int)) ((p + 1 + b.size : Nat) : Int) := by
  unfold spec_l01End.f
  have := ev_l01End_l0 d hd ((p + 1 + b.size : Nat) : Int) (.cons b .nil) p 0 h.one (by have := h.le; simp only [Tr.F.size] at this ⊢; omega)
  simp only [Tr.F.len, Tr.F.size] at this
  refine this ?_
  refine Ev_succ ?_
  simp only [spec_l01End.l0]
  refine evneg (by omega) (evnow (by omega))
theorem ev_sizesOf_l0 {d : List Int} {t : Tr.F} (h : Tr.Tree d t) : ∀ (m v : Nat), v + m = t.size →
    Ev (fun k => impl_sizesOf.l0 k d (Tr.each v (fun v => ((1 + (t.sub v).size : Nat) : Int))) (t.size : Int) (v : Int)) (Tr.sizesL t) := by
  have hle := h.le
  have hlen := h.len
  intro m
  induction m with
  | zero =>
    intro v hv
    refine Ev_succ ?_
    simp only [impl_sizesOf.l0]
    refine evneg (by omega) (evnow ?_)
    have : v = t.size := by omega
    rw [this]; rfl
  | succ m ih =>
    intro v hv
    refine Ev_succ ?_
    simp only [impl_sizesOf.l0]
    obtain ⟨n, hp⟩ := h.node (v := v) (by omega)
    have hf := h.fits (v := v) (by omega)
    refine evpos (by omega) (Ev.bind (ev_endOf (by omega) hp) (evpos (by rw [Tr.each_len]; omega) ?_))
    have e : wrap64 ((v : Int) + 1) = ((v + 1 : Nat) : Int) := by rw [Tr.wrap_id (by omega) (by omega)]; omega
    have e2 : wrap64 (((v + 1 + (t.sub v).size : Nat) : Int) - v) = ((1 + (t.sub v).size : Nat) : Int) := by rw [Tr.wrap_id (by omega) (by omega)]; omega
    rw [e, e2]
    have := ih (v + 1) (by omega)
    rw [Tr.each_succ] at this
    exact this
theorem ev_sizesOf {d : List Int} {t : Tr.F} (h : Tr.Tree d t) : Ev (fun k => impl_sizesOf.f k d) (Tr.sizesL t) := by
  unfold impl_sizesOf.f
  have := ev_sizesOf_l0 h t.size 0 (by omega)
  rw [h.len]
  exact this
theorem ev_preorder_l0 (n : Nat) (hn : n ≤ 1000) : ∀ (m v : Nat), v + m = n → Ev (fun k => impl_preorder.l0 k (Tr.upto v) (n : Int) (v : Int)) (Tr.upto n) := by
  intro m
  induction m with
  | zero =>
    intro v hv
    refine Ev_succ ?_
    simp only [impl_preorder.l0]
    have : v = n := by omega
    rw [this]
    exact evneg (by omega) (Ev.now _)
  | succ m ih =>
    intro v hv
    refine Ev_succ ?_
    simp only [impl_preorder.l0]
    have hl : (Tr.upto v).length = v := Tr.each_len _ _
    have e : wrap64 ((v : Int) + 1) = ((v + 1 : Nat) : Int) := by rw [Tr.wrap_id (by omega) (by omega)]; omega
    refine evpos (by omega) (evpos (by omega) ?_)
    rw [e]
    have := ih (v + 1) (by omega)
    rw [Tr.upto, Tr.each_succ] at this
    exact this
theorem ev_preorder (d : List Int) (hd : d.length ≤ 1000) : Ev (fun k => impl_preorder.f k d) (Tr.upto d.length) := by
  unfold impl_preorder.f
  exact ev_preorder_l0 d.length hd d.length 0 (by omega)
theorem ev_ways_l0 (szl : List Int) (f : Nat → Nat) : ∀ (l pre : List Nat) (N : Int), N = ((pre ++ l).length : Int) → (pre ++ l).length ≤ 20 → (∀ v ∈ pre ++ l, v < szl.length ∧ rd szl (v : Int) = (f v : Int) ∧ 0 < f v) → Tr.lprod ((pre ++ l).map f) ≤ Tr.fact (pre ++ l).length →
    Ev (fun k => impl_ways.l0 k szl (Tr.fact pre.length : Int) (Tr.lprod (pre.map f) : Int) ((pre ++ l).map (fun v : Nat => (v : Int))) N (pre.length : Int)) ((Tr.fact (pre ++ l).length / Tr.lprod ((pre ++ l).map f) : Nat) : Int) := by
  intro l
  induction l with
  | nil =>
    intro pre N hN hb hv hp
    rw [List.append_nil] at hN hb hv hp ⊢
    have hpos : 0 < Tr.lprod (pre.map f) := Tr.lprod_pos _ (fun x hx => by
      simp only [List.mem_map] at hx
      obtain ⟨v, hv', rfl⟩ := hx
      exact (hv v hv').2.2)
    have hfl := Tr.fact_le _ _ hb
    rw [show Tr.fact 20 = 2432902008176640000 by rfl] at hfl
    refine Ev_succ ?_
    simp only [impl_ways.l0]
    generalize Tr.fact pre.length = A at hp hfl ⊢
    generalize Tr.lprod (pre.map f) = B at hp hpos ⊢
    have hdl : A / B ≤ A := Nat.div_le_self _ _
    have e : Int.tdiv (A : Int) (B : Int) = ((A / B : Nat) : Int) := by rw [Int.tdiv_eq_ediv_of_nonneg (by omega)]; exact (Int.natCast_ediv _ _).symm
    rw [e]
    clear e
    generalize A / B = C at hdl ⊢
    exact evneg (by omega) (evneg (by omega) (evnow (Tr.wrap_id (by omega) (by omega))))
  | cons v l ih =>
    intro pre N hN hb hv hp
    obtain ⟨h1, h2, h3⟩ := hv v (by simp)
    have hb' := hb
    simp only [List.length_append, List.length_cons] at hb
    have hfl := Tr.fact_le (pre.length + 1) 20 (by omega)
    rw [show Tr.fact 20 = 2432902008176640000 by rfl] at hfl
    have hfl2 := Tr.fact_le (pre ++ v :: l).length 20 hb'
    rw [show Tr.fact 20 = 2432902008176640000 by rfl] at hfl2
    have hpp : Tr.lprod ((pre ++ [v]).map f) ≤ Tr.lprod ((pre ++ v :: l).map f) := by
      have e : pre ++ v :: l = (pre ++ [v]) ++ l := by simp
      have e0 : Tr.lprod ((pre ++ v :: l).map f) = Tr.lprod ((pre ++ [v]).map f) * Tr.lprod (l.map f) := by rw [e, List.map_append, Tr.lprod_app]
      rw [e0]
      refine Nat.le_mul_of_pos_right _ (Tr.lprod_pos (l.map f) (fun x hx => ?_))
      simp only [List.mem_map] at hx
      obtain ⟨u, hu, rfl⟩ := hx
      exact (hv u (by simp [hu])).2.2
    have e2 : Tr.lprod ((pre ++ [v]).map f) = Tr.lprod (pre.map f) * f v := by rw [List.map_append, Tr.lprod_app]; simp [Tr.lprod]
    have e3 : Tr.fact (pre ++ [v]).length = (pre.length + 1) * Tr.fact pre.length := by simp [Tr.fact]
    have := ih (pre ++ [v]) N (by rw [hN]; simp) (by simpa using hb') (by simpa using hv) (by simpa using hp)
    rw [e2, e3] at this
    have e4 : pre ++ [v] ++ l = pre ++ v :: l := by simp
    have e5 : (pre ++ [v]).length = pre.length + 1 := by simp
    rw [e4, e5] at this
    have hml : ((pre ++ v :: l).map (fun v : Nat => (v : Int))).length = pre.length + (l.length + 1) := by simp
    have e6 : rd ((pre ++ v :: l).map (fun v : Nat => (v : Int))) (pre.length : Int) = v := by rw [Tr.rd_getElem (by simp)]; simp
    rw [show Tr.fact (pre.length + 1) = (pre.length + 1) * Tr.fact pre.length from rfl] at hfl
    rw [e2] at hpp
    simp only [List.length_append, List.length_cons] at hN
    refine Ev_succ ?_
    simp only [impl_ways.l0]
    rw [e6, h2]
    clear e6 h2 e2 e3 e4 e5 ih
    generalize Tr.fact pre.length = A at hfl this ⊢
    generalize Tr.lprod (pre.map f) = B at hpp this ⊢
    generalize f v = s at hpp this h3 ⊢
    have q1 : (A : Int) * ((pre.length : Int) + 1) = (((pre.length + 1) * A : Nat) : Int) := by rw [Nat.mul_comm]; simp
    have q2 : (B : Int) * (s : Int) = ((B * s : Nat) : Int) := by simp
    rw [Tr.wrap_id (x := (pre.length : Int) + 1) (by omega) (by omega), q1, q2]
    clear q1 q2
    generalize (pre.length + 1) * A = A' at hfl this ⊢
    generalize B * s = B' at hpp this ⊢
    rw [Tr.wrap_id (x := (A' : Int)) (by omega) (by omega), Tr.wrap_id (x := (B' : Int)) (by omega) (by omega)]
    refine evpos (by omega) (evpos (by omega) (evpos (by omega) (evpos (by omega) (evpos (by omega) ?_))))
    rw [show (pre.length : Int) + 1 = ((pre.length + 1 : Nat) : Int) by omega]
    exact this
theorem ev_ways (szl : List Int) (f : Nat → Nat) (l : List Nat) (hl : l.length ≤ 20) (hv : ∀ v ∈ l, v < szl.length ∧ rd szl (v : Int) = (f v : Int) ∧ 0 < f v) (hd : Tr.lprod (l.map f) ∣ Tr.fact l.length) :
    Ev (fun k => impl_ways.f k szl (l.map (fun v : Nat => (v : Int)))) ((Tr.fact l.length / Tr.lprod (l.map f) : Nat) : Int) := by
  unfold impl_ways.f
  have := ev_ways_l0 szl f l [] l.length (by simp) (by simpa using hl) (by simpa using hv) (by simpa using Nat.le_of_dvd (Tr.fact_pos _) hd)
  simpa [Tr.fact, Tr.lprod] using this
def toI (l : List Nat) : List Int := l.map (fun v : Nat => (v : Int))
theorem toI_len (l : List Nat) : (toI l).length = l.length := by simp [toI]
theorem toI_rd (l : List Nat) (i : Nat) : rd (toI l) (i : Int) = ((l.getD i 0 : Nat) : Int) := by
  unfold rd toI
  rw [Int.toNat_natCast, List.getD_eq_getElem?_getD, List.getD_eq_getElem?_getD, List.getElem?_map]
  cases l[i]? <;> rfl
theorem toI_set (l : List Nat) (i x : Nat) : (toI l).set i (x : Int) = toI (l.set i x) := by simp [toI, List.map_set]
theorem ev_l09Count_l5 : ∀ (l pre : List Nat), (pre ++ l).length ≤ 1000 → (∀ x ∈ pre ++ l, 0 < x) → Tr.lprod (pre ++ l) ≤ 2432902008176640000 →
    Ev (fun k => spec_l09Count.l5 k (toI (pre ++ l)) (Tr.lprod pre : Int) (pre.length : Int)) (Tr.lprod (pre ++ l) : Int) := by
  intro l
  induction l with
  | nil =>
    intro pre hb _ _
    refine Ev_succ ?_
    simp only [spec_l09Count.l5]
    rw [List.append_nil, toI_len]
    exact evneg (by omega) (Ev.now _)
  | cons x l ih =>
    intro pre hb hp hl
    have h1 : Tr.lprod (pre ++ [x]) ≤ Tr.lprod (pre ++ x :: l) := by
      have e : pre ++ x :: l = (pre ++ [x]) ++ l := by simp
      have e0 : Tr.lprod (pre ++ x :: l) = Tr.lprod (pre ++ [x]) * Tr.lprod l := by rw [e, Tr.lprod_app]
      rw [e0]
      exact Nat.le_mul_of_pos_right _ (Tr.lprod_pos l (fun y hy => hp y (by simp [hy])))
    have e2 : Tr.lprod (pre ++ [x]) = Tr.lprod pre * x := by rw [Tr.lprod_app]; simp [Tr.lprod]
    have := ih (pre ++ [x]) (by simpa using hb) (by simpa using hp) (by simpa using hl)
    have e4 : pre ++ [x] ++ l = pre ++ x :: l := by simp
    have e5 : (pre ++ [x]).length = pre.length + 1 := by simp
    rw [e2, e4, e5] at this
    rw [e2] at h1
    have hg : (pre ++ x :: l).getD pre.length 0 = x := by simp [List.getD_eq_getElem?_getD]
    simp only [List.length_append, List.length_cons] at hb
    refine Ev_succ ?_
    simp only [spec_l09Count.l5]
    rw [toI_rd, hg, toI_len, show (Tr.lprod pre : Int) * (x : Int) = ((Tr.lprod pre * x : Nat) : Int) by simp]
    generalize Tr.lprod pre * x = A at h1 this ⊢
    generalize Tr.lprod (pre ++ x :: l) = B at hl h1 this ⊢
    refine evpos (by simp; omega) (evpos (by omega) ?_)
    rw [Tr.wrap_id (x := (A : Int)) (by omega) (by omega), Tr.wrap_succ (by omega)]
    exact this
theorem ev_l09Count_l4 (top bel : List Nat) (i j : Nat) (hi : i < bel.length) (hj : j < top.length) (hT : ∀ x ∈ top, x ≤ 1000) (hB : ∀ x ∈ bel, x ≤ 1000) (hk : top.length ≤ 1000) (r : Int) : ∀ (n b a : Nat), b < n → 0 < a → a ≤ 1000 → b ≤ 1000 →
    Ev (fun k => spec_l09Count.l3 k (toI (top.set j (top.getD j 0 / Nat.gcd a b))) (toI (bel.set i (bel.getD i 0 / Nat.gcd a b))) (i : Int) ((j + 1 : Nat) : Int)) r → Ev (fun k => spec_l09Count.l4 k (toI top) (toI bel) (i : Int) (j : Int) (a : Int) (b : Int)) r := by
  intro n
  induction n with
  | zero => intro b a h; omega
  | succ n ih =>
    intro b a hb ha hla hlb h
    by_cases hz : b = 0
    · subst hz
      rw [Nat.gcd_zero_right] at h
      refine Ev_succ ?_
      simp only [spec_l09Count.l4]
      rw [toI_rd, toI_rd, toI_len, toI_len]
      have t1 : top.getD j 0 ≤ 1000 := by rw [List.getD_eq_getElem?_getD, List.getElem?_eq_getElem hj]; exact hT _ (List.getElem_mem _)
      have t2 : bel.getD i 0 ≤ 1000 := by rw [List.getD_eq_getElem?_getD, List.getElem?_eq_getElem hi]; exact hB _ (List.getElem_mem _)
      generalize top.getD j 0 = x at t1 h ⊢
      generalize bel.getD i 0 = y at t2 h ⊢
      have d1 : Int.tdiv (x : Int) (a : Int) = ((x / a : Nat) : Int) := by rw [Int.tdiv_eq_ediv_of_nonneg (by omega)]; exact (Int.natCast_ediv _ _).symm
      have d2 : Int.tdiv (y : Int) (a : Int) = ((y / a : Nat) : Int) := by rw [Int.tdiv_eq_ediv_of_nonneg (by omega)]; exact (Int.natCast_ediv _ _).symm
      have l1 : x / a ≤ x := Nat.div_le_self _ _
      have l2 : y / a ≤ y := Nat.div_le_self _ _
      rw [d1, d2]
      clear d1 d2
      generalize x / a = x' at l1 h ⊢
      generalize y / a = y' at l2 h ⊢
      rw [Tr.wrap_id (x := (x' : Int)) (by omega) (by omega), Tr.wrap_id (x := (y' : Int)) (by omega) (by omega), Tr.wrap_succ (by omega), Int.toNat_natCast, Int.toNat_natCast, toI_set, toI_set]
      exact evneg (by omega) (evpos (by omega) (evpos (by omega) (evneg (by omega) (evpos (by omega) (evpos (by omega) h)))))
    · have hlt : a % b < b := Nat.mod_lt _ (by omega)
      have e : Int.tmod (a : Int) (b : Int) = ((a % b : Nat) : Int) := by rw [Int.tmod_eq_emod_of_nonneg (by omega)]; exact (Int.natCast_emod _ _).symm
      have hg : Nat.gcd b (a % b) = Nat.gcd a b := by rw [Nat.gcd_comm b, ← Nat.gcd_rec, Nat.gcd_comm]
      have := ih (a % b) b (by omega) (by omega) hlb (by omega) (by rw [hg]; exact h)
      refine Ev_succ ?_
      simp only [spec_l09Count.l4]
      rw [e]
      clear e
      exact evpos (by omega) (evneg (by omega) this)
theorem ev_l09Count_l3 (bel : List Nat) (i : Nat) (hi : i < bel.length) (hB : ∀ x ∈ bel, x ≤ 1000) (hbl : bel.length ≤ 1000) (r : Int) : ∀ (ts pre : List Nat) (b : Nat), 0 < b → b ≤ 1000 → (pre ++ ts).length ≤ 1000 → (∀ x ∈ pre ++ ts, 0 < x ∧ x ≤ 1000) →
    Ev (fun k => spec_l09Count.l2 k (toI (pre ++ (Tr.cancel b ts).2)) (toI (bel.set i (Tr.cancel b ts).1)) ((i + 1 : Nat) : Int)) r → Ev (fun k => spec_l09Count.l3 k (toI (pre ++ ts)) (toI (bel.set i b)) (i : Int) (pre.length : Int)) r := by
  intro ts
  induction ts with
  | nil =>
    intro pre b hb hb1 hl _ h
    refine Ev_succ ?_
    simp only [spec_l09Count.l3]
    rw [toI_len]
    refine evneg (by simp) (Ev_succ ?_)
    simp only [spec_l09Count.j4]
    refine evneg (by simp) ?_
    rw [Tr.wrap_succ (by omega)]
    exact h
  | cons t ts ih =>
    intro pre b hb hb1 hl hp h
    have hgb : (bel.set i b).getD i 0 = b := by simp [List.getD_eq_getElem?_getD, hi]
    have hgt : (pre ++ t :: ts).getD pre.length 0 = t := by simp [List.getD_eq_getElem?_getD]
    have ht := hp t (by simp)
    have hl' := hl
    simp only [List.length_append, List.length_cons] at hl
    refine Ev_succ ?_
    simp only [spec_l09Count.l3]
    rw [toI_len, toI_len, toI_rd, hgb]
    refine evpos (by simp; omega) (evpos (by omega) (evpos (by simp; omega) (Ev_succ ?_)))
    simp only [spec_l09Count.j4]
    rw [toI_len, toI_len, toI_rd, toI_rd, hgb, hgt]
    unfold Tr.cancel at h
    by_cases h1 : 1 < b
    · rw [if_pos h1] at h
      refine evpos (by simp; omega) (evpos (by omega) (evpos (by simp; omega) (evpos (by omega) (evpos (by simp; omega) ?_))))
      have hg : 0 < Nat.gcd t b := Nat.gcd_pos_of_pos_left _ ht.1
      have hb2 : 0 < b / Nat.gcd t b := Nat.div_pos (Nat.le_of_dvd hb (Nat.gcd_dvd_right t b)) hg
      have ht2 : 0 < t / Nat.gcd t b := Nat.div_pos (Nat.le_of_dvd ht.1 (Nat.gcd_dvd_left t b)) hg
      have hb3 : b / Nat.gcd t b ≤ b := Nat.div_le_self _ _
      have ht3 : t / Nat.gcd t b ≤ t := Nat.div_le_self _ _
      refine ev_l09Count_l4 (pre ++ t :: ts) (bel.set i b) i pre.length (by simpa using hi) (by simp) (fun x hx => (hp x hx).2) (fun x hx => by
        rcases List.mem_or_eq_of_mem_set hx with hx | rfl
        · exact hB x hx
        · exact hb1) hl' r (b + 1) b t (by omega) ht.1 ht.2 hb1 ?_
      rw [hgb, hgt, List.set_set, show (pre ++ t :: ts).set pre.length (t / Nat.gcd t b) = pre ++ (t / Nat.gcd t b) :: ts by simp]
      have := ih (pre ++ [t / Nat.gcd t b]) (b / Nat.gcd t b) hb2 (by omega) (by simpa using hl') (fun x hx => by
        simp only [List.mem_append, List.mem_cons, List.mem_singleton, List.not_mem_nil, or_false] at hx
        rcases hx with (hx | rfl) | hx
        · exact hp x (by simp [hx])
        · exact ⟨ht2, by omega⟩
        · exact hp x (by simp [hx])) (by simpa using h)
      simpa using this
    · rw [if_neg h1] at h
      refine evneg (by simp; omega) ?_
      rw [Tr.wrap_succ (by omega)]
      exact h
theorem ev_l09Count_l2 : ∀ (bs pre ts : List Nat), (pre ++ bs).length ≤ 1000 → ts.length ≤ 1000 → (∀ x ∈ pre ++ bs, 0 < x ∧ x ≤ 1000) → (∀ x ∈ ts, 0 < x ∧ x ≤ 1000) → Tr.lprod ts ≤ 2432902008176640000 → Tr.lprod bs ∣ Tr.lprod ts →
    Ev (fun k => spec_l09Count.l2 k (toI ts) (toI (pre ++ bs)) (pre.length : Int)) (Tr.lprod (Tr.cancelAll bs ts) : Int) := by
  intro bs
  induction bs with
  | nil =>
    intro pre ts hb hl _ ht hp _
    refine Ev_succ ?_
    simp only [spec_l09Count.l2]
    rw [toI_len]
    refine evneg (by simp) ?_
    have := ev_l09Count_l5 ts [] (by simpa using hl) (by simpa using fun x hx => (ht x hx).1) (by simpa using hp)
    simpa [Tr.lprod, Tr.cancelAll] using this
  | cons b bs ih =>
    intro pre ts hb hl hpb ht hp hd
    have hb0 := hpb b (by simp)
    have hd1 : b ∣ Tr.lprod ts := Nat.dvd_trans ⟨Tr.lprod bs, rfl⟩ hd
    obtain ⟨c1, c2, c3, c4⟩ := Tr.cancel_spec ts b hb0.1 (fun x hx => (ht x hx).1) hd1
    have hd2 : Tr.lprod bs ∣ Tr.lprod (Tr.cancel b ts).2 := by
      have : b * Tr.lprod bs ∣ b * Tr.lprod (Tr.cancel b ts).2 := by rw [c2]; exact hd
      exact Nat.dvd_of_mul_dvd_mul_left hb0.1 this
    have hle : Tr.lprod (Tr.cancel b ts).2 ≤ Tr.lprod ts := by rw [← c2]; exact Nat.le_mul_of_pos_left _ hb0.1
    have hb' := hb
    simp only [List.length_append, List.length_cons] at hb
    have hset : (pre ++ b :: bs).set pre.length b = pre ++ b :: bs := by simp
    refine Ev_succ ?_
    simp only [spec_l09Count.l2]
    rw [toI_len]
    refine evpos (by simp; omega) ?_
    have := ev_l09Count_l3 (pre ++ b :: bs) pre.length (by simp) (fun x hx => (hpb x hx).2) hb' (Tr.lprod (Tr.cancelAll (b :: bs) ts) : Int) ts [] b hb0.1 hb0.2 (by simpa using hl) (by simpa using ht) ?_
    · rw [hset] at this
      exact this
    · rw [c1]
      have h2 := ih (pre ++ [1]) (Tr.cancel b ts).2 (by simpa using hb') (by omega) (fun x hx => by
        simp only [List.mem_append, List.mem_singleton] at hx
        rcases hx with (hx | rfl) | hx
        · exact hpb x (by simp [hx])
        · omega
        · exact hpb x (by simp [hx])) (fun x hx => ⟨c3 x hx, ?_⟩) (by omega) hd2
      · rw [show (pre ++ b :: bs).set pre.length 1 = (pre ++ [1]) ++ bs by simp, List.nil_append]
        simpa [Tr.cancelAll] using h2
      · exact Tr.cancel_le ts b (fun x hx => (ht x hx).2) x hx
theorem ev_l09Count_l1 {d : List Int} {t : Tr.F} (h : Tr.Tree d t) (hs : t.size ≤ 20) (met : List Bool) (hm : met.length = t.size) (un : Nat → Bool) (hun : ∀ v : Nat, v < t.size → rdOf false met (v : Int) = !un v) (bs : List Nat) (hbs : bs = ((List.range t.size).filter un).map (fun v => 1 + (t.sub v).size)) (hd : Tr.lprod bs ∣ Tr.fact bs.length) :
    ∀ (m v : Nat), v + m = t.size → Ev (fun k => spec_l09Count.l1 k met (toI ((List.range (((List.range v).filter un).length)).map (· + 1))) (toI (((List.range v).filter un).map (fun v => 1 + (t.sub v).size))) (v : Int) d) ((Tr.fact bs.length / Tr.lprod bs : Nat) : Int) := by
  have hle := h.le
  have hlen := h.len
  intro m
  induction m with
  | zero =>
    intro v hv
    obtain rfl : v = t.size := (by omega)
    have hbl : bs.length ≤ 20 := by
      rw [hbs, List.length_map]
      exact Nat.le_trans (List.length_filter_le _ _) (by simp; omega)
    have e1 : ((List.range t.size).filter un).length = bs.length := by rw [hbs, List.length_map]
    have hfl := Tr.fact_le _ _ hbl
    rw [show Tr.fact 20 = 2432902008176640000 by rfl] at hfl
    have hp0 : ∀ x ∈ bs, 0 < x ∧ x ≤ 1000 := by
      intro x hx
      rw [hbs] at hx
      simp only [List.mem_map, List.mem_filter, List.mem_range] at hx
      obtain ⟨v, ⟨hv1, _⟩, rfl⟩ := hx
      have := h.fits hv1
      omega
    have ht0 : ∀ x ∈ (List.range bs.length).map (· + 1), 0 < x ∧ x ≤ 1000 := by
      intro x hx
      simp only [List.mem_map, List.mem_range] at hx
      obtain ⟨v, hv1, rfl⟩ := hx
      omega
    refine Ev_succ ?_
    simp only [spec_l09Count.l1, l01N_eq]
    rw [e1, ← hbs]
    refine evsome (evneg (by omega) ?_)
    have := ev_l09Count_l2 bs [] ((List.range bs.length).map (· + 1)) (by simp; omega) (by simp; omega) (by simpa using hp0) ht0 (by rw [Tr.lprod_up]; exact hfl) (by rw [Tr.lprod_up]; exact hd)
    have hsp := Tr.cancelAll_spec bs ((List.range bs.length).map (· + 1)) (fun x hx => (hp0 x hx).1) (fun x hx => (ht0 x hx).1) (by rw [Tr.lprod_up]; exact hd)
    rw [Tr.lprod_up] at hsp
    have hpos := Tr.lprod_pos bs (fun x hx => (hp0 x hx).1)
    rw [← hsp, Nat.mul_div_cancel_left _ hpos]
    simpa using this
  | succ m ih =>
    intro v hv
    obtain ⟨n, hp⟩ := h.node (v := v) (by omega)
    have hf := h.fits (v := v) (by omega)
    have hfl : ((List.range v).filter un).length ≤ v := Nat.le_trans (List.length_filter_le _ _) (by simp)
    have hnext := ih (v + 1) (by omega)
    rw [List.range_succ, List.filter_append] at hnext
    have hmt := hun v (by omega)
    refine Ev_succ ?_
    simp only [spec_l09Count.l1, l01N_eq]
    refine evsome (evpos (by omega) (evpos (by omega) (evpos (by omega) ?_)))
    rw [hmt, Tr.wrap_succ (by omega)]
    cases hu : un v with
    | false =>
      simp only [List.filter_cons, hu, List.filter_nil, List.append_nil] at hnext
      exact evpos (by simp) (by simpa using hnext)
    | true =>
      simp only [List.filter_cons, hu, List.filter_nil, if_true] at hnext
      refine evneg (by simp) (evpos (by rw [toI_len]; simp; omega) (Ev.bind (ev_l01End (by omega) hp) (evpos (by rw [toI_len]; simp; omega) ?_)))
      rw [toI_len, Tr.wrap_id (x := ((v + 1 + (t.sub v).size : Nat) : Int) - v) (by omega) (by omega)]
      simp only [List.length_map, List.length_range]
      rw [Tr.wrap_succ (by omega)]
      have q1 : ∀ (l : List Nat) (x : Nat), toI l ++ [(x : Int)] = toI (l ++ [x]) := fun l x => by simp [toI]
      rw [show ((v + 1 + (t.sub v).size : Nat) : Int) - v = ((1 + (t.sub v).size : Nat) : Int) by omega, q1, q1]
      rw [List.length_append, List.map_append, show ([v] : List Nat).length = 1 from rfl, List.range_succ, List.map_append] at hnext
      exact hnext
theorem ev_l09Count_l0 {d : List Int} {t : Tr.F} (h : Tr.Tree d t) (hs : t.size ≤ 20) (bs : List Nat) : ∀ (l pre : List Int) (met : List Bool), (∀ c ∈ l, 0 ≤ c ∧ c < t.size) → (pre ++ l).length ≤ 1000 → met.length = t.size → (∀ v : Nat, v < t.size → rdOf false met (v : Int) = decide ((v : Int) ∈ pre)) →
    bs = ((List.range t.size).filter (fun v : Nat => decide (¬ (v : Int) ∈ pre ++ l))).map (fun v => 1 + (t.sub v).size) → Tr.lprod bs ∣ Tr.fact bs.length →
    Ev (fun k => spec_l09Count.l0 k (pre ++ l) met (pre.length : Int) d) ((Tr.fact bs.length / Tr.lprod bs : Nat) : Int) := by
  intro l
  induction l with
  | nil =>
    intro pre met _ hb hm hmet hbs hd
    refine Ev_succ ?_
    simp only [spec_l09Count.l0]
    refine evneg (by simp) ?_
    have := ev_l09Count_l1 h hs met hm (fun v : Nat => decide (¬ (v : Int) ∈ pre ++ [])) (fun v hv => by rw [hmet v hv]; simp) bs hbs hd t.size 0 (by omega)
    simpa [toI] using this
  | cons c l ih =>
    intro pre met hc hb hm hmet hbs hd
    have h1 := hc c (List.mem_cons_self ..)
    have e : rd (pre ++ c :: l) (pre.length : Int) = c := by rw [Tr.rd_app0]; exact Tr.rd_cons0 _ _
    have hb' := hb
    simp only [List.length_append, List.length_cons] at hb
    refine Ev_succ ?_
    simp only [spec_l09Count.l0]
    rw [e]
    clear e
    refine evpos (by simp; omega) (evpos (by omega) (evpos h1.1 (evpos (by omega) ?_)))
    rw [Tr.wrap_succ (by omega)]
    have := ih (pre ++ [c]) (met.set c.toNat true) (fun x hx => hc x (List.mem_cons_of_mem _ hx)) (by simpa using hb') (by simpa using hm) (fun v hv => by
      rw [Tr.rdOf_set (by omega) h1.1, hmet v hv]
      by_cases e : c = v
      · rw [if_pos e]; simp [e]
      · rw [if_neg e]; congr 1; simp only [List.mem_append, List.mem_singleton, eq_iff_iff]; constructor
        · exact fun h => .inl h
        · rintro (h | h)
          · exact h
          · exact absurd h.symm e) (by rw [hbs]; simp) hd
    simpa using this
theorem ev_l09Count {d : List Int} {t : Tr.F} (h : Tr.Tree d t) (hs : t.size ≤ 20) (bs : List Nat) (beg : List Int) (hb : ∀ c ∈ beg, 0 ≤ c ∧ c < t.size) (hl : beg.length ≤ 1000)
    (hbs : bs = ((List.range t.size).filter (fun v : Nat => decide (¬ (v : Int) ∈ beg))).map (fun v => 1 + (t.sub v).size)) (hd : Tr.lprod bs ∣ Tr.fact bs.length) :
    Ev (fun k => spec_l09Count.f k d beg) ((Tr.fact bs.length / Tr.lprod bs : Nat) : Int) := by
  have hle := h.le
  have hlen := h.len
  unfold spec_l09Count.f
  rw [l01N_eq]
  refine evsome (evpos (by omega) (evpos (by omega) ?_))
  have := ev_l09Count_l0 h hs bs beg [] (List.replicate d.length false) hb (by simpa using hl) (by simpa using hlen) (fun v hv => by rw [Tr.rdOf_rep]; simp) (by simpa using hbs) hd
  simpa using this
theorem ev_CountGrowing (d : List Int) : ∃ r : Int × Int, Ev (fun k => spec_CountGrowing.f k d) r ∧ Ev (fun k => impl_CountGrowing.f k d) r := by
  rcases Tr.isT_cases d with h | ⟨t, h⟩
  · refine ⟨(0, 1), ?_, ?_⟩
    · unfold spec_CountGrowing.f spec_l09Few.f; exact Ev.bind (Ev.bind (ev_l01Is d) (evneg (by simp [h]) (Ev.now _))) (evneg (by omega) (Ev.now _))
    · unfold impl_CountGrowing.f impl_grownCode.f; exact Ev.bind (Ev.bind (ev_IsTree d) (evneg (by simp [h]) (Ev.now _))) (evneg (by omega) (Ev.now _))
  · have hle := h.le
    have hlen := h.len
    by_cases hs : t.size ≤ 20
    · have hbs : (List.range t.size).map (fun v => 1 + (t.sub v).size) = t.szs := by
        apply List.ext_getElem
        · simp [Tr.F.szs_len]
        · intro i h1 h2
          have h3 : i < t.size := by simpa using h1
          have := Tr.F.szs_get t i h3
          rw [List.getD_eq_getElem?_getD, List.getElem?_eq_getElem h2] at this
          simp at this ⊢
          exact this.symm
      have hd : Tr.lprod t.szs ∣ Tr.fact t.szs.length := by rw [Tr.F.szs_len, Tr.F.szs_prod]; exact Tr.F.prod_dvd t
      refine ⟨(((Tr.fact t.szs.length / Tr.lprod t.szs : Nat) : Int), 0), ?_, ?_⟩
      · unfold spec_CountGrowing.f spec_l09Few.f
        refine Ev.bind (a := 0) (Ev.bind (ev_l01Is d) (evpos h.isT ?_)) (evpos rfl (Ev.bind (ev_l09Count h hs t.szs [] (by simp) (by simp) (by rw [← hbs, List.filter_eq_self.2 (fun v _ => by simp)]) hd) (Ev.now _)))
        rw [l01N_eq]
        exact evsome (evneg (by omega) (Ev.now _))
      · unfold impl_CountGrowing.f impl_grownCode.f
        refine Ev.bind (a := 0) (Ev.bind (ev_IsTree d) (evpos h.isT (evneg (by omega) (Ev.now _)))) (evpos rfl (Ev.bind (ev_sizesOf h) (Ev.bind (ev_preorder d (by omega)) ?_)))
        have hw := ev_ways (Tr.sizesL t) (fun v => 1 + (t.sub v).size) (List.range t.size) (by simpa using hs) (fun v hv => by
          have hv' : v < t.size := by simpa using hv
          exact ⟨by rw [Tr.sizesL, Tr.each_len]; exact hv', Tr.each_rd hv', by omega⟩) (by rw [hbs]; simpa [Tr.F.szs_len] using hd)
        rw [hbs] at hw
        have e : Tr.upto d.length = (List.range t.size).map (fun v : Nat => (v : Int)) := by rw [hlen]; rfl
        rw [e, Tr.F.szs_len]
        simp only [List.length_range] at hw
        exact Ev.bind hw (Ev.now _)
    · refine ⟨(0, 3), ?_, ?_⟩
      · unfold spec_CountGrowing.f spec_l09Few.f
        refine Ev.bind (a := 3) (Ev.bind (ev_l01Is d) (evpos h.isT ?_)) (evneg (by omega) (Ev.now _))
        rw [l01N_eq]
        exact evsome (evpos (by omega) (Ev.now _))
      · unfold impl_CountGrowing.f impl_grownCode.f
        exact Ev.bind (a := 3) (Ev.bind (ev_IsTree d) (evpos h.isT (evpos (by omega) (Ev.now _)))) (evneg (by omega) (Ev.now _))
theorem pure_FnExactCountGrowing (l0 : List Int) (hl0 : l0.length ≤ maxLen) (_ : ∀ x ∈ l0, (Lit.int .i64 x).wf = true) : ∃ k, laws_FnExactCountGrowing.f k l0 = some true := by
  unfold maxLen at hl0
  refine Ev.rounds ?_
  unfold laws_FnExactCountGrowing.f
  rw [szTree_eq l0 (1048576) (by omega) (by omega) (by omega)]
  refine evsome ?_
  by_cases hs0 : (1048576 : Int) - l0.length < 0
  · rw [if_pos hs0]; exact evpos (by omega) (Ev.now _)
  rw [if_neg hs0]
  refine evneg hs0 ?_
  obtain ⟨r, hq, hi⟩ := ev_CountGrowing l0
  repeat first
    | exact Ev.now _
    | refine Ev.bind hq ?_
    | refine Ev.bind hi ?_
    | refine Ev.bind (ev_toTree l0 (by omega)) ?_
    | refine Ev.bind (ev_eqTree l0 l0 (by omega) (by omega)) ?_
    | (refine evpos ?_ ?_; first | rfl | (simp <;> fail))
    | (refine evneg ?_ ?_; first | (simp <;> fail) | (simp <;> omega))
    | (refine Ev_succ ?_; simp only [laws_FnExactCountGrowing.j0])
end Go.Proofs.Ytlealjliaifkcab.QFnExactCountGrowing
