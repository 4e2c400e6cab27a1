import Derived.Test.YtlppkilencpmeaaQFnHeavyPathsx
import Derived.Test.YtlppkilencpmeaaTr
import Derived.Test.YtlppkilencpmeaaNd
import Derived.Test.YtlppkilencpmeaaGr
import Derived.Test.YtlppkilencpmeaaIx
import Derived.Test.YtlppkilencpmeaaHp
import Derived.Test.YtlppkilencpmeaaHq
import Derived.Laws.Bits64b
/- Numbers that follow from a code: what a part of a hash is. Plain mathematics, no program in sight. -/
namespace Go.Proofs.Ytlppkilencpmeaa.Dr
open Go.RowKit Go.Proofs.YtlppkilencpmeaaW.PrintWords
theorem u64_in (x : Int) : 0 ≤ IntKind.u64.wrap x ∧ IntKind.u64.wrap x < 18446744073709551616 := by
  have h : IntKind.u64.wrap x = x % 18446744073709551616 := by rfl
  rw [h]; omega
theorem low_in {x : Int} (h0 : 0 ≤ x) (h1 : x < 18446744073709551616) : 0 ≤ Go.bits .and .u64 x 16777215 ∧ Go.bits .and .u64 x 16777215 ≤ 16777215 := by
  obtain ⟨n, rfl⟩ := Int.eq_ofNat_of_zero_le h0
  have h := Go.bits_and_u64_nat n 16777215 (by omega) (by omega)
  rw [show ((16777215 : Nat) : Int) = 16777215 from rfl] at h
  rw [h]
  have := Nat.and_le_right (n := n) (m := 16777215)
  omega
theorem hash_in (x : Int) : 0 ≤ Go.bits .and .u64 (IntKind.u64.wrap x / 8589934592) 16777215 ∧ Go.bits .and .u64 (IntKind.u64.wrap x / 8589934592) 16777215 ≤ 16777215 := by
  have h := u64_in x
  exact low_in (by omega) (by omega)
theorem tmod_in {a b : Int} (h0 : 0 ≤ a) (hb : 1 ≤ b) : 0 ≤ Int.tmod a b ∧ Int.tmod a b < b := by
  rw [Int.tmod_eq_emod_of_nonneg h0]
  exact ⟨Int.emod_nonneg _ (by omega), Int.emod_lt_of_pos _ (by omega)⟩
/-- A code: bytes, not too many. -/
def Cod (C : List Int) : Prop := C.length ≤ 1000000 ∧ ∀ x ∈ C, 0 ≤ x ∧ x ≤ 255
theorem cod_rd {C : List Int} (h : Cod C) (i : Int) : 0 ≤ rd C i ∧ rd C i ≤ 255 := by
  unfold rd
  rw [List.getD_eq_getElem?_getD]
  cases hl : C[i.toNat]? with
  | none => simp
  | some x => simpa using h.2 x (List.mem_of_getElem? hl)
end Go.Proofs.Ytlppkilencpmeaa.Dr

namespace Go.Proofs.Ytlppkilencpmeaa.QFnHeavyPaths
open Go.RowKit Go.Proofs.YtlppkilencpmeaaW.PrintWords Go.Proofs.YtlppkilencpmeaaW.PrintLast Go.Proofs.YtlppkilencpmeaaW.PrintMore Go.Proofs.Ytlppkilencpmeaa
set_option linter.unusedVariables false
set_option linter.unusedSimpArgs false
theorem Ev_succ {α : Type} {g : Nat → Option α} {r : α} (h : Ev (fun k => g (k + 1)) r) : Ev g r := Ev.step (fun _ => rfl) h
theorem evpos {α : Type} {c : Prop} [Decidable c] {f g : Nat → Option α} {r : α} (h : c) (k : Ev f r) : Ev (fun n => if c then f n else g n) r := by
  simp only [if_pos h]; exact k
theorem evneg {α : Type} {c : Prop} [Decidable c] {f g : Nat → Option α} {r : α} (h : ¬ c) (k : Ev g r) : Ev (fun n => if c then f n else g n) r := by
  simp only [if_neg h]; exact k
theorem evsome {α β : Type} {a : α} {f : Nat → α → Option β} {r : β} (k : Ev (fun n => f n a) r) : Ev (fun n => (some a).bind (f n)) r := k
theorem evnow {α : Type} {a r : α} (h : a = r) : Ev (fun _ => some a) r := by subst h; exact Ev.now _
/-- The numbers m, m + 1, .. -/
def up (m : Int) : Nat → List Int
  | 0 => []
  | n + 1 => m :: up (m + 1) n
theorem ev_isTree_l0 : ∀ (l pre : List Int) (m : Int) (n : Int), n = ((pre ++ l).length : Int) → n ≤ 1000 → 0 ≤ m → m + 24 * l.length ≤ 100000 →
    Ev (fun k => impl_isTree.l0 k m (pre ++ l) n (pre.length : Int)) (Tr.ok l m) := by
  intro l
  induction l with
  | nil =>
    intro pre m n hn hb h0 h1
    refine Ev_succ ?_
    simp only [impl_isTree.l0]
    simp only [List.length_append, List.length_nil] at hn
    refine evneg (by omega) (evnow ?_)
    rfl
  | cons x l ih =>
    intro pre m n hn hb h0 h1
    refine Ev_succ ?_
    simp only [impl_isTree.l0]
    have hn' := hn
    simp only [List.length_append, List.length_cons] at hn h1 ⊢
    refine evpos (by omega) (evpos (by omega) (evpos (by simp; omega) ?_))
    have e : rd (pre ++ x :: l) (pre.length : Int) = x := by rw [Tr.rd_app0]; exact Tr.rd_cons0 _ _
    rw [e]
    by_cases hm : m = 0
    · refine evpos hm (evnow ?_); simp [Tr.ok, hm]
    · refine evneg hm ?_
      by_cases hx : x < 0
      · refine evpos hx (evnow ?_); simp [Tr.ok, hm, Int.not_le.mpr hx]
      · refine evneg hx ?_
        by_cases hy : x ≥ 24
        · refine evpos hy (evnow ?_); simp [Tr.ok, hm, Int.not_lt.mpr hy]
        · refine evneg hy ?_
          have e2 : wrap64 (m + wrap64 (x - 1)) = m - 1 + x := by rw [Tr.wrap_id (x := x - 1) (by omega) (by omega), Tr.wrap_id (by omega) (by omega)]; omega
          have e3 : wrap64 ((pre.length : Int) + 1) = ((pre ++ [x]).length : Int) := by rw [Tr.wrap_id (by omega) (by omega)]; simp
          rw [e2, e3]
          have := ih (pre ++ [x]) (m - 1 + x) n (by simp; omega) hb (by omega) (by omega)
          simp only [List.append_assoc, List.singleton_append] at this
          rw [show Tr.ok (x :: l) m = Tr.ok l (m - 1 + x) by
            have : (m != 0) = true := bne_iff_ne.mpr hm
            have h4 : decide (0 ≤ x) = true := decide_eq_true (by omega)
            have h5 : decide (x < 24) = true := decide_eq_true (by omega)
            simp only [Tr.ok, this, h4, h5, Bool.true_and]]
          exact this
theorem ev_isTree (d : List Int) : Ev (fun k => impl_isTree.f k d) (Tr.isT d) := by
  unfold impl_isTree.f
  by_cases h : (d.length : Int) < 1
  · refine evpos h (Ev_succ ?_)
    simp only [impl_isTree.j0]
    refine evpos (by simp) (evnow ?_)
    simp only [Tr.isT, decide_eq_false (by omega : ¬ 1 ≤ d.length), Bool.false_and]
  · refine evneg h (Ev_succ ?_)
    simp only [impl_isTree.j0]
    by_cases h2 : (d.length : Int) > 24
    · refine evpos (decide_eq_true h2) (evnow ?_)
      simp only [Tr.isT, decide_eq_false (by omega : ¬ d.length ≤ 24), Bool.false_and, Bool.and_false]
    · refine evneg (by simpa using h2) ?_
      have := ev_isTree_l0 d [] 1 d.length (by simp) (by omega) (by omega) (by omega)
      rw [show Tr.isT d = Tr.ok d 1 by simp only [Tr.isT, decide_eq_true (by omega : 1 ≤ d.length), decide_eq_true (by omega : d.length ≤ 24), Bool.true_and]]
      exact this
theorem ev_IsTree (d : List Int) : Ev (fun k => impl_IsTree.f k d) (Tr.isT d) := by
  unfold impl_IsTree.f
  exact Ev.bind (ev_isTree d) (Ev.now _)
theorem l01In_eq (a b c : Int) : spec_l01In.f a b c = some (decide (b ≤ a ∧ a ≤ c)) := by
  unfold spec_l01In.f
  by_cases h : a ≥ b
  · rw [if_pos h]; congr 1; simp; omega
  · rw [if_neg h]; congr 1; symm; simp; omega
theorem l01N_eq (d : List Int) : spec_l01N.f d = some (d.length : Int) := rfl
theorem ev_l01Is_l0 : ∀ (l pre : List Int) (m : Int), (pre ++ l).length ≤ 24 → 0 ≤ m → (m ≥ 1 ∨ True) → m + 25 * l.length ≤ 100000 →
    Ev (fun k => spec_l01Is.l0 k m (pre.length : Int) (pre ++ l)) (Tr.ok25 l m) := by
  intro l
  induction l with
  | nil =>
    intro pre m hb h0 _ h1
    refine Ev_succ ?_
    simp only [spec_l01Is.l0, List.length_append, List.length_nil]
    refine evneg (by omega) (evnow ?_)
    rfl
  | cons x l ih =>
    intro pre m hb h0 _ h1
    refine Ev_succ ?_
    simp only [spec_l01Is.l0]
    simp only [List.length_append, List.length_cons] at h1 hb ⊢
    refine evpos (by omega) ?_
    have e : rd (pre ++ x :: l) (pre.length : Int) = x := by rw [Tr.rd_app0]; exact Tr.rd_cons0 _ _
    rw [e, l01In_eq]
    by_cases hm : m = 0
    · refine evpos hm (evnow ?_); simp [Tr.ok25, hm]
    · refine evneg hm (evpos (by omega) (evsome ?_))
      by_cases hx : 0 ≤ x ∧ x ≤ 24
      · refine evpos (decide_eq_true hx) ?_
        have e2 : wrap64 (wrap64 (m - 1) + x) = m - 1 + x := by rw [Tr.wrap_id (x := m - 1) (by omega) (by omega), Tr.wrap_id (by omega) (by omega)]
        have e3 : wrap64 ((pre.length : Int) + 1) = ((pre ++ [x]).length : Int) := by rw [Tr.wrap_id (by omega) (by omega)]; simp
        rw [e2, e3]
        have := ih (pre ++ [x]) (m - 1 + x) (by simp; omega) (by omega) (.inr trivial) (by omega)
        simp only [List.append_assoc, List.singleton_append] at this
        rw [show Tr.ok25 (x :: l) m = Tr.ok25 l (m - 1 + x) by
          have : (m != 0) = true := bne_iff_ne.mpr hm
          simp only [Tr.ok25, this, decide_eq_true hx, Bool.true_and]]
        exact this
      · refine evneg (by simpa using hx) (evnow ?_)
        simp only [Tr.ok25, decide_eq_false hx, Bool.false_and, Bool.and_false]
theorem ev_l01Is (d : List Int) : Ev (fun k => spec_l01Is.f k d) (Tr.isT d) := by
  unfold spec_l01Is.f
  rw [l01N_eq]
  refine evsome ?_
  rw [l01In_eq]
  refine evsome ?_
  by_cases h : (1 : Int) ≤ (d.length : Int) ∧ (d.length : Int) ≤ 24
  · refine evpos (decide_eq_true h) ?_
    have := ev_l01Is_l0 d [] 1 (by simp; omega) (by omega) (.inr trivial) (by omega)
    rw [Tr.isT_eq25 d (by omega) (by omega)]
    exact this
  · refine evneg (by simpa using h) (evnow ?_)
    simp only [Tr.isT]
    by_cases h2 : 1 ≤ d.length
    · simp only [decide_eq_false (by omega : ¬ d.length ≤ 24), Bool.false_and, Bool.and_false]
    · simp only [decide_eq_false h2, Bool.false_and]
theorem ev_endOf_l0 (d : List Int) (hd : d.length ≤ 1000) (r : Int) : ∀ (g : Tr.F) (p j : Nat), Tr.Pl d p g → j + g.size ≤ 100000 →
    Ev (fun k => impl_endOf.l0 k d ((p + g.size : Nat) : Int) (j : Int)) r → Ev (fun k => impl_endOf.l0 k d (p : Int) ((g.len + j : Nat) : Int)) r := by
  intro g
  induction g with
  | nil => intro p j _ _ h; simpa [Tr.F.size, Tr.F.len] using h
  | cons b n hb hn =>
    intro p j hp hj h
    have hle := hp.le
    simp only [Tr.F.size] at hle hj
    have l1 := Tr.F.len_le b
    have l2 := Tr.F.len_le n
    refine Ev_succ ?_
    simp only [impl_endOf.l0, Tr.F.len]
    refine evpos (by omega) (evpos (by omega) (evpos (by omega) ?_))
    rw [hp.deg]
    have e : wrap64 ((p : Int) + 1) = ((p + 1 : Nat) : Int) := by rw [Tr.wrap_id (by omega) (by omega)]; omega
    have e2 : wrap64 (((1 + n.len + j : Nat) : Int) + wrap64 ((b.len : Int) - 1)) = ((b.len + (n.len + j) : Nat) : Int) := by
      rw [Tr.wrap_id (x := (b.len : Int) - 1) (by omega) (by omega), Tr.wrap_id (by omega) (by omega)]; omega
    rw [e, e2]
    refine hb (p + 1) (n.len + j) hp.below (by omega) ?_
    refine hn (p + 1 + b.size) j hp.next (by omega) ?_
    rw [show p + 1 + b.size + n.size = p + (Tr.F.cons b n).size by simp only [Tr.F.size]; omega]
    exact h
theorem ev_endOf {d : List Int} (hd : d.length ≤ 1000) {p : Nat} {b n : Tr.F} (h : Tr.Pl d p (.cons b n)) : Ev (fun k => impl_endOf.f k d (p : Int)) ((p + 1 + b.size : Nat) : Int) := by
  unfold impl_endOf.f
  have := ev_endOf_l0 d hd ((p + 1 + b.size : Nat) : Int) (.cons b .nil) p 0 h.one (by have := h.le; simp only [Tr.F.size] at this ⊢; omega)
  simp only [Tr.F.len, Tr.F.size] at this
  refine this ?_
  refine Ev_succ ?_
  simp only [impl_endOf.l0]
  refine evneg (by omega) (evnow (by omega))
theorem ev_l01End_l0 (d : List Int) (hd : d.length ≤ 1000) (r : Int) : ∀ (g : Tr.F) (p j : Nat), Tr.Pl d p g → j + g.size ≤ 100000 →
    Ev (fun k => spec_l01End.l0 k ((p + g.size : Nat) : Int) (j : Int) d) r → Ev (fun k => spec_l01End.l0 k (p : Int) ((g.len + j : Nat) : Int) d) r := by
  intro g
  induction g with
  | nil => intro p j _ _ h; simpa [Tr.F.size, Tr.F.len] using h
  | cons b n hb hn =>
    intro p j hp hj h
    have hle := hp.le
    simp only [Tr.F.size] at hle hj
    have l1 := Tr.F.len_le b
    have l2 := Tr.F.len_le n
    refine Ev_succ ?_
    simp only [spec_l01End.l0, Tr.F.len]
    refine evpos (by omega) (evpos (by omega) (evpos (by omega) ?_))
    rw [hp.deg]
    have e : wrap64 ((p : Int) + 1) = ((p + 1 : Nat) : Int) := by rw [Tr.wrap_id (by omega) (by omega)]; omega
    have e2 : wrap64 (wrap64 (((1 + n.len + j : Nat) : Int) - 1) + (b.len : Int)) = ((b.len + (n.len + j) : Nat) : Int) := by
      rw [Tr.wrap_id (x := ((1 + n.len + j : Nat) : Int) - 1) (by omega) (by omega), Tr.wrap_id (by omega) (by omega)]; omega
    rw [e, e2]
    refine hb (p + 1) (n.len + j) hp.below (by omega) ?_
    refine hn (p + 1 + b.size) j hp.next (by omega) ?_
    rw [show p + 1 + b.size + n.size = p + (Tr.F.cons b n).size by simp only [Tr.F.size]; omega]
    exact h
theorem ev_l01End {d : List Int} (hd : d.length ≤ 1000) {p : Nat} {b n : Tr.F} (h : Tr.Pl d p (.cons b n)) : Ev (fun k => spec_l01End.f k d (p : Int)) ((p + 1 + b.size : Nat) : Int) := by
  unfold spec_l01End.f
  have := ev_l01End_l0 d hd ((p + 1 + b.size : Nat) : Int) (.cons b .nil) p 0 h.one (by have := h.le; simp only [Tr.F.size] at this ⊢; omega)
  simp only [Tr.F.len, Tr.F.size] at this
  refine this ?_
  refine Ev_succ ?_
  simp only [spec_l01End.l0]
  refine evneg (by omega) (evnow (by omega))
theorem ev_kidsOf_l0 (d : List Int) (hd : d.length ≤ 1000) : ∀ (g : Tr.F) (p i N : Nat) (out : List Int), Tr.Pl d p g → i + g.len = N → N ≤ 1000 → out.length ≤ i →
    Ev (fun k => impl_kidsOf.l0 k d out (p : Int) (N : Int) (i : Int)) (out ++ g.roots p) := by
  intro g
  induction g with
  | nil =>
    intro p i N out hp hi hN ho
    simp only [Tr.F.len] at hi
    refine Ev_succ ?_
    simp only [impl_kidsOf.l0]
    refine evneg (by omega) (evnow ?_)
    simp [Tr.F.roots]
  | cons b n hb hn =>
    intro p i N out hp hi hN ho
    simp only [Tr.F.len] at hi
    refine Ev_succ ?_
    simp only [impl_kidsOf.l0]
    refine evpos (by omega) (evpos (by omega) (Ev.bind (ev_endOf hd hp) ?_))
    have e : wrap64 ((i : Int) + 1) = ((i + 1 : Nat) : Int) := by rw [Tr.wrap_id (by omega) (by omega)]; omega
    rw [e]
    have := hn (p + 1 + b.size) (i + 1) N (out ++ [(p : Int)]) hp.next (by omega) hN (by simp; omega)
    simpa [Tr.F.roots] using this
theorem ev_kidsOf {d : List Int} (hd : d.length ≤ 1000) {p : Nat} {b n : Tr.F} (h : Tr.Pl d p (.cons b n)) : Ev (fun k => impl_kidsOf.f k d (p : Int)) (b.roots (p + 1)) := by
  have hle := h.le
  simp only [Tr.F.size] at hle
  have l1 := Tr.F.len_le b
  unfold impl_kidsOf.f
  refine evpos (by omega) (evpos (by omega) ?_)
  have e : wrap64 ((p : Int) + 1) = ((p + 1 : Nat) : Int) := by rw [Tr.wrap_id (by omega) (by omega)]; omega
  rw [h.deg, e]
  have := ev_kidsOf_l0 d hd b (p + 1) 0 b.len [] h.below (by omega) (by omega) (by simp)
  simpa using this
theorem ev_l01Children_l0 (d : List Int) (hd : d.length ≤ 1000) : ∀ (g : Tr.F) (p : Nat) (out : List Int), Tr.Pl d p g → out.length + g.len ≤ 1000 →
    Ev (fun k => spec_l01Children.l0 k out (p : Int) (g.len : Int) d) (out ++ g.roots p) := by
  intro g
  induction g with
  | nil =>
    intro p out hp ho
    refine Ev_succ ?_
    simp only [spec_l01Children.l0, Tr.F.len]
    refine evneg (by omega) (evnow ?_)
    simp [Tr.F.roots]
  | cons b n hb hn =>
    intro p out hp ho
    simp only [Tr.F.len] at ho
    refine Ev_succ ?_
    simp only [spec_l01Children.l0, Tr.F.len]
    refine evpos (by omega) (evpos (by omega) (Ev.bind (ev_l01End hd hp) ?_))
    have e : wrap64 (((1 + n.len : Nat) : Int) - 1) = (n.len : Int) := by rw [Tr.wrap_id (by omega) (by omega)]; omega
    rw [e]
    have := hn (p + 1 + b.size) (out ++ [(p : Int)]) hp.next (by simp; omega)
    simpa [Tr.F.roots] using this
theorem ev_l01Children {d : List Int} (hd : d.length ≤ 1000) {p : Nat} {b n : Tr.F} (h : Tr.Pl d p (.cons b n)) : Ev (fun k => spec_l01Children.f k d (p : Int)) (b.roots (p + 1)) := by
  have hle := h.le
  simp only [Tr.F.size] at hle
  have l1 := Tr.F.len_le b
  unfold spec_l01Children.f
  refine evpos (by omega) (evpos (by omega) ?_)
  have e : wrap64 ((p : Int) + 1) = ((p + 1 : Nat) : Int) := by rw [Tr.wrap_id (by omega) (by omega)]; omega
  rw [h.deg, e]
  have := ev_l01Children_l0 d hd b (p + 1) [] h.below (by simp; omega)
  simpa using this
theorem l01Own_eq (l : List Int) (h : l.length ≤ 1000000) : spec_l01Own.f l = some l := by
  unfold spec_l01Own.f
  simp only [Option.bind_some]
  rw [if_pos (by simp; omega)]
  simp
theorem l01Make_eq (l : List Int) (h : l.length ≤ 1000000) : spec_l01Make.f l = some l := by
  unfold spec_l01Make.f
  rw [l01Own_eq l h]; rfl
theorem ev_treeCode_l0 (d : List Int) (hd : d.length ≤ 1000) : ∀ (l pre : List Int) (N : Int), N = ((pre ++ l).length : Int) → N ≤ 100000000 →
    Ev (fun k => impl_treeCode.l0 k (pre ++ l) N (pre.length : Int) d) (Tr.nodesCode d.length l) := by
  intro l
  induction l with
  | nil =>
    intro pre N hN hb
    refine Ev_succ ?_
    simp only [impl_treeCode.l0]
    simp only [List.length_append, List.length_nil] at hN
    exact evneg (by omega) (evnow rfl)
  | cons v l ih =>
    intro pre N hN hb
    refine Ev_succ ?_
    simp only [impl_treeCode.l0]
    have hN' := hN
    simp only [List.length_append, List.length_cons] at hN
    have e : rd (pre ++ v :: l) (pre.length : Int) = v := by rw [Tr.rd_app0]; exact Tr.rd_cons0 _ _
    refine evpos (by omega) (evpos (by omega) (evpos (by simp; omega) ?_))
    rw [e]
    by_cases h0 : v < 0
    · refine evpos h0 (evnow ?_)
      simp only [Tr.nodesCode]; rw [if_neg (by omega)]
    · refine evneg h0 ?_
      by_cases h1 : v ≥ d.length
      · refine evpos h1 (evnow ?_)
        simp only [Tr.nodesCode]; rw [if_neg (by omega)]
      · refine evneg h1 ?_
        have e3 : wrap64 ((pre.length : Int) + 1) = ((pre ++ [v]).length : Int) := by rw [Tr.wrap_id (by omega) (by omega)]; simp
        rw [e3]
        have := ih (pre ++ [v]) N (by simp only [hN', List.append_assoc, List.singleton_append]) hb
        simp only [List.append_assoc, List.singleton_append] at this
        rw [show Tr.nodesCode d.length (v :: l) = Tr.nodesCode d.length l by simp only [Tr.nodesCode]; rw [if_pos (by omega)]]
        exact this
theorem ev_treeCode (d l : List Int) (hl : l.length ≤ 100000000) : Ev (fun k => impl_treeCode.f k d l) (Tr.codeT d l) := by
  unfold impl_treeCode.f Tr.codeT
  refine Ev.bind (ev_IsTree d) ?_
  by_cases h : Tr.isT d = true
  · rw [h]
    obtain ⟨b, _, hb, hd, _⟩ := Tr.isT_at h
    refine evpos rfl ?_
    have := ev_treeCode_l0 d (by omega) l [] l.length (by simp) (by omega)
    exact this
  · rw [if_neg h]
    exact evneg h (Ev.now _)
theorem ev_l01Nodes_l0 (d : List Int) (hd : d.length ≤ 1000) : ∀ (l pre : List Int), (pre ++ l).length ≤ 100000000 →
    Ev (fun k => spec_l01Nodes.l0 k (pre ++ l) (pre.length : Int) d) (Tr.nodesCode d.length l) := by
  intro l
  induction l with
  | nil =>
    intro pre hb
    refine Ev_succ ?_
    simp only [spec_l01Nodes.l0]
    exact evneg (by simp) (evnow rfl)
  | cons v l ih =>
    intro pre hb
    refine Ev_succ ?_
    simp only [spec_l01Nodes.l0]
    have hb' := hb
    simp only [List.length_append, List.length_cons] at hb
    have e : rd (pre ++ v :: l) (pre.length : Int) = v := by rw [Tr.rd_app0]; exact Tr.rd_cons0 _ _
    have e1 : wrap64 ((d.length : Int) - 1) = (d.length : Int) - 1 := Tr.wrap_id (by omega) (by omega)
    refine evpos (by simp; omega) (evpos (by omega) ?_)
    rw [l01N_eq]
    refine evsome ?_
    rw [e, e1, l01In_eq]
    refine evsome ?_
    by_cases h : 0 ≤ v ∧ v ≤ (d.length : Int) - 1
    · refine evpos (decide_eq_true h) ?_
      have e3 : wrap64 ((pre.length : Int) + 1) = ((pre ++ [v]).length : Int) := by rw [Tr.wrap_id (by omega) (by omega)]; simp
      rw [e3]
      have := ih (pre ++ [v]) (by simpa using hb')
      simp only [List.append_assoc, List.singleton_append] at this
      rw [show Tr.nodesCode d.length (v :: l) = Tr.nodesCode d.length l by simp only [Tr.nodesCode]; rw [if_pos (by omega)]]
      exact this
    · refine evneg (by simpa using h) (evnow ?_)
      simp only [Tr.nodesCode]; rw [if_neg (by omega)]
theorem ev_l01Nodes (d l : List Int) (hl : l.length ≤ 100000000) : Ev (fun k => spec_l01Nodes.f k d l) (Tr.codeT d l) := by
  unfold spec_l01Nodes.f Tr.codeT
  refine Ev.bind (ev_l01Is d) ?_
  by_cases h : Tr.isT d = true
  · rw [h]
    obtain ⟨b, _, hb, hd, _⟩ := Tr.isT_at h
    refine evpos rfl ?_
    have := ev_l01Nodes_l0 d (by omega) l [] (by simpa using hl)
    exact this
  · rw [if_neg h]
    exact evneg h (Ev.now _)
theorem ev_l01Parents_l1 (d : List Int) (v : Nat) (hv : v ≤ 1000) (r : List Int) : ∀ (l pre out : List Int), (pre ++ l).length ≤ 1000 → (∀ c ∈ l, 0 ≤ c ∧ c < out.length) →
    Ev (fun k => spec_l01Parents.l0 k (Tr.setAll out l v) ((v + 1 : Nat) : Int) d) r → Ev (fun k => spec_l01Parents.l1 k out (v : Int) (pre ++ l) (pre.length : Int) d) r := by
  intro l
  induction l with
  | nil =>
    intro pre out hb _ h
    refine Ev_succ ?_
    simp only [spec_l01Parents.l1]
    refine evneg (by simp) ?_
    have e : wrap64 ((v : Int) + 1) = ((v + 1 : Nat) : Int) := by rw [Tr.wrap_id (by omega) (by omega)]; omega
    rw [e]; exact h
  | cons c l ih =>
    intro pre out hb hc h
    have h1 := hc c (List.mem_cons_self ..)
    refine Ev_succ ?_
    simp only [spec_l01Parents.l1]
    have e : rd (pre ++ c :: l) (pre.length : Int) = c := by rw [Tr.rd_app0]; exact Tr.rd_cons0 _ _
    have hb' := hb
    simp only [List.length_append, List.length_cons] at hb
    have e3 : wrap64 ((pre.length : Int) + 1) = ((pre ++ [c]).length : Int) := by rw [Tr.wrap_id (by omega) (by omega)]; simp
    refine evpos (by simp; omega) (evpos (by omega) (evpos (by rw [e]; omega) (evpos (by rw [e]; omega) ?_)))
    rw [e, e3]
    have := ih (pre ++ [c]) (out.set c.toNat v) (by simpa using hb') (fun x hx => by have := hc x (List.mem_cons_of_mem _ hx); simpa using this) h
    simpa using this
theorem ev_l01Parents_l0 {d : List Int} {t : Tr.F} (h : Tr.Tree d t) : ∀ (m v : Nat) (out : List Int), v + m = t.size → out.length = t.size → (∀ c : Nat, c < t.size → t.par 0 (-1) c < v → rd out (c : Int) = t.par 0 (-1) c) →
    Ev (fun k => spec_l01Parents.l0 k out (v : Int) d) (Tr.parentsL t) := by
  have hle := h.le
  have hlen := h.len
  intro m
  induction m with
  | zero =>
    intro v out hv ho hi
    refine Ev_succ ?_
    simp only [spec_l01Parents.l0, l01N_eq]
    refine evsome (evneg (by omega) (evnow ?_))
    refine Tr.each_eq ho (fun c hc => hi c hc ?_)
    have := (h.par_lt hc).2; omega
  | succ m ih =>
    intro v out hv ho hi
    refine Ev_succ ?_
    simp only [spec_l01Parents.l0, l01N_eq]
    obtain ⟨n, hp⟩ := h.node (v := v) (by omega)
    refine evsome (evpos (by omega) (Ev.bind (ev_l01Children (by omega) hp) ?_))
    have hk : ∀ c ∈ (t.sub v).roots (v + 1), 0 ≤ c ∧ c < out.length := fun c hc => by have := h.kid_range (v := v) (by omega) hc; omega
    refine ev_l01Parents_l1 d v (by omega) _ _ [] out ?_ hk ?_
    · have := Tr.F.len_le (t.sub v)
      have := h.fits (v := v) (by omega)
      rw [List.nil_append, Tr.F.roots_len]; omega
    · refine ih (v + 1) _ (by omega) (by rw [Tr.setAll_len]; exact ho) (fun c hc hpc => ?_)
      rw [Tr.setAll_rd v _ _ _ (fun x hx => (hk x hx).1) (by omega)]
      by_cases e : (c : Int) ∈ (t.sub v).roots (v + 1)
      · rw [if_pos e]; exact ((h.kids (by omega) hc).1 e).symm
      · rw [if_neg e]
        refine hi c hc ?_
        have : ¬ t.par 0 (-1) c = v := fun e' => e ((h.kids (by omega) hc).2 e')
        omega
theorem ev_l01Parents {d : List Int} {t : Tr.F} (h : Tr.Tree d t) : Ev (fun k => spec_l01Parents.f k d) (Tr.parentsL t) := by
  have hle := h.le
  have hlen := h.len
  have hpos := h.pos
  unfold spec_l01Parents.f
  rw [l01N_eq]
  refine evsome (evpos (by omega) (evpos (by omega) (evsome (evpos (by simp; omega) ?_))))
  refine ev_l01Parents_l0 h t.size 0 _ (by omega) (by simp; omega) (fun c hc hp => ?_)
  have e : c = 0 := by
    by_cases e : c = 0
    · exact e
    · have := h.par_pos (c := c) (by omega) hc; omega
  subst e
  rw [h.par_zero]
  have := Tr.rd_set (l := List.replicate (d.length : Int).toNat 0) (c := 0) (x := -1) (i := 0) (by simp; omega) (by omega)
  simpa using this
theorem ev_sizesOf_l0 {d : List Int} {t : Tr.F} (h : Tr.Tree d t) : ∀ (m v : Nat), v + m = t.size →
    Ev (fun k => impl_sizesOf.l0 k d (Tr.each v (fun v => ((1 + (t.sub v).size : Nat) : Int))) (t.size : Int) (v : Int)) (Tr.sizesL t) := by
  have hle := h.le
  have hlen := h.len
  intro m
  induction m with
  | zero =>
    intro v hv
    refine Ev_succ ?_
    simp only [impl_sizesOf.l0]
    refine evneg (by omega) (evnow ?_)
    have : v = t.size := by omega
    rw [this]; rfl
  | succ m ih =>
    intro v hv
    refine Ev_succ ?_
    simp only [impl_sizesOf.l0]
    obtain ⟨n, hp⟩ := h.node (v := v) (by omega)
    have hf := h.fits (v := v) (by omega)
    refine evpos (by omega) (Ev.bind (ev_endOf (by omega) hp) (evpos (by rw [Tr.each_len]; omega) ?_))
    have e : wrap64 ((v : Int) + 1) = ((v + 1 : Nat) : Int) := by rw [Tr.wrap_id (by omega) (by omega)]; omega
    have e2 : wrap64 (((v + 1 + (t.sub v).size : Nat) : Int) - v) = ((1 + (t.sub v).size : Nat) : Int) := by rw [Tr.wrap_id (by omega) (by omega)]; omega
    rw [e, e2]
    have := ih (v + 1) (by omega)
    rw [Tr.each_succ] at this
    exact this
theorem ev_sizesOf {d : List Int} {t : Tr.F} (h : Tr.Tree d t) : Ev (fun k => impl_sizesOf.f k d) (Tr.sizesL t) := by
  unfold impl_sizesOf.f
  have := ev_sizesOf_l0 h t.size 0 (by omega)
  rw [h.len]
  exact this
theorem ev_l08Heavy_l1 {d : List Int} (hd : d.length ≤ 1000) (v : Nat) (hv : v ≤ 1000) (out : List Int) (ho : out.length ≤ 1000) (r : List Int) : ∀ (g : Tr.F) (p : Nat) (pre : List Int) (cur s : Int), Tr.Pl d p g → pre.length + g.len ≤ 1000 →
    Ev (fun k => spec_l08Heavy.l0 k (out ++ [g.best p cur s]) ((v + 1 : Nat) : Int) d) r → Ev (fun k => spec_l08Heavy.l1 k out (v : Int) (pre ++ g.roots p) cur s (pre.length : Int) d) r := by
  intro g
  induction g with
  | nil =>
    intro p pre cur s hp hb h
    refine Ev_succ ?_
    simp only [spec_l08Heavy.l1]
    refine evneg (by simp [Tr.F.roots]) (evpos (by omega) ?_)
    have e : wrap64 ((v : Int) + 1) = ((v + 1 : Nat) : Int) := by rw [Tr.wrap_id (by omega) (by omega)]; omega
    rw [e]; exact h
  | cons b n hb hn =>
    intro p pre cur s hp hb h
    have hle := hp.le
    simp only [Tr.F.size, Tr.F.len] at hle hb
    rw [Tr.F.roots]
    refine Ev_succ ?_
    simp only [spec_l08Heavy.l1]
    have e : rd (pre ++ (p : Int) :: n.roots (p + 1 + b.size)) (pre.length : Int) = p := by rw [Tr.rd_app0]; exact Tr.rd_cons0 _ _
    have e3 : wrap64 ((pre.length : Int) + 1) = ((pre ++ [(p : Int)]).length : Int) := by rw [Tr.wrap_id (by omega) (by omega)]; simp
    have e2 : wrap64 (((p + 1 + b.size : Nat) : Int) - p) = ((1 + b.size : Nat) : Int) := by rw [Tr.wrap_id (by omega) (by omega)]; omega
    refine evpos (by simp; omega) (evpos (by omega) ?_)
    rw [e]
    refine Ev.bind (ev_l01End hd hp) ?_
    rw [e2, e3]
    have e5 : pre ++ (p : Int) :: n.roots (p + 1 + b.size) = (pre ++ [(p : Int)]) ++ n.roots (p + 1 + b.size) := by simp
    rw [e5]
    by_cases hs : s < ((1 + b.size : Nat) : Int)
    · refine evpos hs (hn _ _ _ _ hp.next (by simp; omega) ?_)
      rw [Tr.F.best, if_pos hs] at h
      exact h
    · refine evneg hs (hn _ _ _ _ hp.next (by simp; omega) ?_)
      rw [Tr.F.best, if_neg hs] at h
      exact h
theorem ev_l08Heavy_l0 {d : List Int} {t : Tr.F} (h : Tr.Tree d t) : ∀ (m v : Nat), v + m = t.size →
    Ev (fun k => spec_l08Heavy.l0 k (Tr.each v (fun v => (t.sub v).best (v + 1) (-1) 0)) (v : Int) d) (Tr.heavyL t) := by
  have hle := h.le
  have hlen := h.len
  intro m
  induction m with
  | zero =>
    intro v hv
    refine Ev_succ ?_
    simp only [spec_l08Heavy.l0, l01N_eq]
    refine evsome (evneg (by omega) (evnow ?_))
    have : v = t.size := by omega
    rw [this]; rfl
  | succ m ih =>
    intro v hv
    refine Ev_succ ?_
    simp only [spec_l08Heavy.l0, l01N_eq]
    obtain ⟨n, hp⟩ := h.node (v := v) (by omega)
    have hf := h.fits (v := v) (by omega)
    refine evsome (evpos (by omega) (Ev.bind (ev_l01Children (by omega) hp) ?_))
    refine ev_l08Heavy_l1 (by omega) v (by omega) _ (by rw [Tr.each_len]; omega) _ (t.sub v) (v + 1) [] _ _ hp.below (by have := Tr.F.len_le (t.sub v); simp; omega) ?_
    rw [← Tr.each_succ]
    exact ih (v + 1) (by omega)
theorem ev_l08Heavy {d : List Int} {t : Tr.F} (h : Tr.Tree d t) : Ev (fun k => spec_l08Heavy.f k d) (Tr.heavyL t) := by
  unfold spec_l08Heavy.f
  exact ev_l08Heavy_l0 h t.size 0 (by omega)
theorem ev_heavyChildren_l1 {d : List Int} {t : Tr.F} (h : Tr.Tree d t) (v : Nat) (hv : v ≤ 1000) (out : List Int) (ho : out.length ≤ 1000) (r : List Int) : ∀ (g : Tr.F) (p : Nat) (pre : List Int) (cur s N : Int), Tr.Pl d p g → ((pre.length + g.len : Nat) : Int) = N → N ≤ 1000 →
    (cur = -1 ∧ s = 0 ∨ 0 ≤ cur ∧ cur < t.size ∧ rd (Tr.sizesL t) cur = s) →
    Ev (fun k => impl_heavyChildren.l0 k d (Tr.sizesL t) (out ++ [g.best p cur s]) (t.size : Int) ((v + 1 : Nat) : Int)) r → Ev (fun k => impl_heavyChildren.l1 k d (Tr.sizesL t) out cur (t.size : Int) (v : Int) (pre ++ g.roots p) N (pre.length : Int)) r := by
  have hle := h.le
  have hlen := h.len
  intro g
  induction g with
  | nil =>
    intro p pre cur s N hp hN hb _ h
    refine Ev_succ ?_
    simp only [impl_heavyChildren.l1]
    simp only [Tr.F.len] at hN
    refine evneg (by omega) (evpos (by omega) ?_)
    have e : wrap64 ((v : Int) + 1) = ((v + 1 : Nat) : Int) := by rw [Tr.wrap_id (by omega) (by omega)]; omega
    rw [e]; exact h
  | cons b n hb hn =>
    intro p pre cur s N hp hN hb hc hr
    have hple := hp.le
    simp only [Tr.F.size, Tr.F.len] at hple hN
    rw [Tr.F.roots]
    refine Ev_succ ?_
    simp only [impl_heavyChildren.l1]
    have e : rd (pre ++ (p : Int) :: n.roots (p + 1 + b.size)) (pre.length : Int) = p := by rw [Tr.rd_app0]; exact Tr.rd_cons0 _ _
    have e3 : wrap64 ((pre.length : Int) + 1) = ((pre ++ [(p : Int)]).length : Int) := by rw [Tr.wrap_id (by omega) (by omega)]; simp
    have e5 : pre ++ (p : Int) :: n.roots (p + 1 + b.size) = (pre ++ [(p : Int)]) ++ n.roots (p + 1 + b.size) := by simp
    have hsp : rd (Tr.sizesL t) (p : Int) = ((1 + b.size : Nat) : Int) := by
      rw [Tr.sizesL, Tr.each_rd (by omega)]
      obtain ⟨m, hm⟩ := h.node (v := p) (by omega)
      rw [Tr.Pl.uniq1 hm hp]
    have hsl : (Tr.sizesL t).length = t.size := Tr.each_len _ _
    refine evpos (by omega) (evpos (by omega) (evpos (by simp; omega) ?_))
    rw [e, e3, e5, hsp]
    have go : ∀ cur s : Int, (cur = -1 ∧ s = 0 ∨ 0 ≤ cur ∧ cur < t.size ∧ rd (Tr.sizesL t) cur = s) → Ev (fun k => impl_heavyChildren.l0 k d (Tr.sizesL t) (out ++ [n.best (p + 1 + b.size) cur s]) (t.size : Int) ((v + 1 : Nat) : Int)) r →
        Ev (fun k => impl_heavyChildren.l1 k d (Tr.sizesL t) out cur (t.size : Int) (v : Int) (pre ++ [(p : Int)] ++ n.roots (p + 1 + b.size)) N ((pre ++ [(p : Int)]).length : Int)) r :=
      fun cur s hc hr => hn (p + 1 + b.size) (pre ++ [(p : Int)]) cur s N hp.next (by simp only [List.length_append, List.length_cons, List.length_nil]; omega) hb hc hr
    rcases hc with ⟨rfl, rfl⟩ | ⟨hc0, hc1, hc2⟩
    · refine evpos (by omega) (go _ ((1 + b.size : Nat) : Int) (.inr ⟨by omega, by omega, hsp⟩) ?_)
      rw [Tr.F.best, if_pos (by omega)] at hr
      exact hr
    · refine evneg (by omega) (evpos (by omega) (evpos (by rw [hsl]; omega) (evpos (by omega) (evpos (by rw [hsl]; omega) ?_))))
      rw [hc2]
      by_cases hs : s < ((1 + b.size : Nat) : Int)
      · refine evpos hs (go _ ((1 + b.size : Nat) : Int) (.inr ⟨by omega, by omega, hsp⟩) ?_)
        rw [Tr.F.best, if_pos hs] at hr
        exact hr
      · refine evneg hs (go _ s (.inr ⟨hc0, hc1, hc2⟩) ?_)
        rw [Tr.F.best, if_neg hs] at hr
        exact hr
theorem ev_heavyChildren_l0 {d : List Int} {t : Tr.F} (h : Tr.Tree d t) : ∀ (m v : Nat), v + m = t.size →
    Ev (fun k => impl_heavyChildren.l0 k d (Tr.sizesL t) (Tr.each v (fun v => (t.sub v).best (v + 1) (-1) 0)) (t.size : Int) (v : Int)) (Tr.heavyL t) := by
  have hle := h.le
  have hlen := h.len
  intro m
  induction m with
  | zero =>
    intro v hv
    refine Ev_succ ?_
    simp only [impl_heavyChildren.l0]
    refine evneg (by omega) (evnow ?_)
    have : v = t.size := by omega
    rw [this]; rfl
  | succ m ih =>
    intro v hv
    refine Ev_succ ?_
    simp only [impl_heavyChildren.l0]
    obtain ⟨n, hp⟩ := h.node (v := v) (by omega)
    have hf := h.fits (v := v) (by omega)
    have hl := Tr.F.len_le (t.sub v)
    refine evpos (by omega) (Ev.bind (ev_kidsOf (by omega) hp) ?_)
    refine ev_heavyChildren_l1 h v (by omega) _ (by rw [Tr.each_len]; omega) _ (t.sub v) (v + 1) [] (-1) 0 _ hp.below (by rw [Tr.F.roots_len]; simp) (by rw [Tr.F.roots_len]; omega) (.inl ⟨rfl, rfl⟩) ?_
    rw [← Tr.each_succ]
    exact ih (v + 1) (by omega)
theorem ev_heavyChildren {d : List Int} {t : Tr.F} (h : Tr.Tree d t) : Ev (fun k => impl_heavyChildren.f k d) (Tr.heavyL t) := by
  unfold impl_heavyChildren.f
  refine Ev.bind (ev_sizesOf h) ?_
  rw [h.len]
  exact ev_heavyChildren_l0 h t.size 0 (by omega)
theorem ev_parentsOf_l1 (d : List Int) (v : Nat) (hv : v ≤ 1000) (N : Int) (r : List Int) : ∀ (l pre out : List Int), (pre ++ l).length ≤ 1000 → (∀ c ∈ l, 0 ≤ c ∧ c < out.length) →
    Ev (fun k => impl_parentsOf.l0 k d (Tr.setAll out l v) N ((v + 1 : Nat) : Int)) r → Ev (fun k => impl_parentsOf.l1 k d out (v : Int) N (v : Int) (pre ++ l) ((pre ++ l).length : Int) (pre.length : Int)) r := by
  intro l
  induction l with
  | nil =>
    intro pre out hb _ h
    refine Ev_succ ?_
    simp only [impl_parentsOf.l1]
    refine evneg (by simp) ?_
    rw [Tr.wrap_succ (by omega)]; exact h
  | cons c l ih =>
    intro pre out hb hc h
    have h1 := hc c (List.mem_cons_self ..)
    refine Ev_succ ?_
    simp only [impl_parentsOf.l1]
    have e : rd (pre ++ c :: l) (pre.length : Int) = c := by rw [Tr.rd_app0]; exact Tr.rd_cons0 _ _
    have hb' := hb
    simp only [List.length_append, List.length_cons] at hb
    refine evpos (by simp; omega) (evpos (by omega) (evpos (by simp; omega) ?_))
    rw [e]
    clear e
    refine evpos h1.1 (evpos h1.2 ?_)
    rw [Tr.wrap_succ (by omega)]
    have := ih (pre ++ [c]) (out.set c.toNat v) (by simpa using hb') (fun x hx => by have := hc x (List.mem_cons_of_mem _ hx); simpa using this) h
    simpa using this
theorem ev_parentsOf_l0 {d : List Int} {t : Tr.F} (h : Tr.Tree d t) : ∀ (m v : Nat) (out : List Int), v + m = t.size → out.length = t.size → (∀ c : Nat, c < t.size → t.par 0 (-1) c < v → rd out (c : Int) = t.par 0 (-1) c) →
    Ev (fun k => impl_parentsOf.l0 k d out (t.size : Int) (v : Int)) (Tr.parentsL t) := by
  have hle := h.le
  have hlen := h.len
  intro m
  induction m with
  | zero =>
    intro v out hv ho hi
    refine Ev_succ ?_
    simp only [impl_parentsOf.l0]
    refine evneg (by omega) (evnow ?_)
    refine Tr.each_eq ho (fun c hc => hi c hc ?_)
    have := (h.par_lt hc).2; omega
  | succ m ih =>
    intro v out hv ho hi
    refine Ev_succ ?_
    simp only [impl_parentsOf.l0]
    obtain ⟨n, hp⟩ := h.node (v := v) (by omega)
    refine evpos (by omega) (Ev.bind (ev_kidsOf (by omega) hp) ?_)
    have hk : ∀ c ∈ (t.sub v).roots (v + 1), 0 ≤ c ∧ c < out.length := fun c hc => by have := h.kid_range (v := v) (by omega) hc; omega
    refine ev_parentsOf_l1 d v (by omega) _ _ _ [] out ?_ hk ?_
    · have := Tr.F.len_le (t.sub v)
      have := h.fits (v := v) (by omega)
      rw [List.nil_append, Tr.F.roots_len]; omega
    · refine ih (v + 1) _ (by omega) (by rw [Tr.setAll_len]; exact ho) (fun c hc hpc => ?_)
      rw [Tr.setAll_rd v _ _ _ (fun x hx => (hk x hx).1) (by omega)]
      by_cases e : (c : Int) ∈ (t.sub v).roots (v + 1)
      · rw [if_pos e]; exact ((h.kids (by omega) hc).1 e).symm
      · rw [if_neg e]
        refine hi c hc ?_
        have : ¬ t.par 0 (-1) c = v := fun e' => e ((h.kids (by omega) hc).2 e')
        omega
theorem ev_parentsOf {d : List Int} {t : Tr.F} (h : Tr.Tree d t) : Ev (fun k => impl_parentsOf.f k d) (Tr.parentsL t) := by
  have hle := h.le
  have hlen := h.len
  have hpos := h.pos
  unfold impl_parentsOf.f slices_Repeat.f
  rw [if_pos (by refine ⟨rfl, ?_, ?_⟩ <;> omega)]
  refine evsome ?_
  rw [hlen]
  refine ev_parentsOf_l0 h t.size 0 _ (by omega) (by simp) (fun c hc hp => ?_)
  have e : c = 0 := by
    by_cases e : c = 0
    · exact e
    · have := h.par_pos (c := c) (by omega) hc; omega
  subst e
  rw [h.par_zero]
  rw [Tr.rd_getElem (by simp; omega)]
  simp [rd]
theorem ev_Index_l0 (x : Int) : ∀ (l pre : List Int) (N : Int), N = ((pre ++ l).length : Int) → N ≤ 100000000 → Ev (fun k => slices_Index_int64_int64.l0 k (pre ++ l) x N (pre.length : Int)) (Tr.idx x l pre.length) := by
  intro l
  induction l with
  | nil =>
    intro pre N hN hb
    refine Ev_succ ?_
    simp only [slices_Index_int64_int64.l0]
    simp only [List.length_append, List.length_nil] at hN
    exact evneg (by omega) (evnow rfl)
  | cons y l ih =>
    intro pre N hN hb
    have hN' := hN
    simp only [List.length_append, List.length_cons] at hN
    refine Ev_succ ?_
    simp only [slices_Index_int64_int64.l0]
    rw [Tr.rd_app0, Tr.rd_cons0]
    refine evpos (by omega) (evpos (by omega) (evpos (by simp; omega) ?_))
    unfold Tr.idx
    by_cases h : x = y
    · rw [if_pos h]; exact evpos h (Ev.now _)
    · rw [if_neg h]
      refine evneg h ?_
      rw [Tr.wrap_succ (by omega)]
      have := ih (pre ++ [y]) N (by rw [hN']; simp) hb
      simpa using this
theorem ev_Index (l : List Int) (x : Int) (h : l.length ≤ 100000000) : Ev (fun k => slices_Index_int64_int64.f k l x) (Tr.idx x l 0) := by
  unfold slices_Index_int64_int64.f
  exact ev_Index_l0 x l [] l.length (by simp) (by omega)
theorem ev_Contains (l : List Int) (x : Int) (h : l.length ≤ 100000000) : Ev (fun k => slices_Contains_int64_int64.f k l x) (decide (x ∈ l)) := by
  unfold slices_Contains_int64_int64.f
  refine Ev.bind (ev_Index l x h) (evnow ?_)
  have := Tr.idx_mem x l 0
  by_cases hm : x ∈ l
  · rw [decide_eq_true hm, decide_eq_true (this.2 hm)]
  · rw [decide_eq_false hm, decide_eq_false (fun h => hm (this.1 h))]
theorem ev_HeavyPaths_s1 {d : List Int} {t : Tr.F} (h : Tr.Tree d t) (P : List Int) (out : List (List Int)) (hout : out.length ≤ 1000) (v : Nat) (hv : v < t.size) {r : List (List Int) × Int} : ∀ (m : Nat) (acc : List Int) (w : Int), w < t.size → w < 0 ∨ (t.size : Int) < m + w → acc.length + m ≤ 1000 →
    Ev (fun k => spec_HeavyPaths.l0 k P (Tr.heavyL t) (out ++ [acc ++ Tr.hpath (Tr.heavyL t) m w]) ((v + 1 : Nat) : Int) d) r → Ev (fun k => spec_HeavyPaths.l1 k P (Tr.heavyL t) out (v : Int) acc w d) r := by
  have hle := h.le
  have hlen := h.len
  have hHl : (Tr.heavyL t).length = t.size := Tr.each_len _ _
  have stop : ∀ (m : Nat) (acc : List Int) (w : Int), w < 0 → Ev (fun k => spec_HeavyPaths.l0 k P (Tr.heavyL t) (out ++ [acc ++ Tr.hpath (Tr.heavyL t) m w]) ((v + 1 : Nat) : Int) d) r → Ev (fun k => spec_HeavyPaths.l1 k P (Tr.heavyL t) out (v : Int) acc w d) r := by
    intro m acc w hw hr
    rw [Tr.hpath_neg _ _ hw, List.append_nil] at hr
    refine Ev_succ ?_
    simp only [spec_HeavyPaths.l1]
    rw [Tr.wrap_succ (by omega)]
    exact evneg (by omega) (evpos (by omega) hr)
  intro m
  induction m with
  | zero =>
    intro acc w h2 h3 h4 hr
    exact stop 0 acc w (by omega) hr
  | succ m ih =>
    intro acc w h2 h3 h4 hr
    by_cases hw : w < 0
    · exact stop (m + 1) acc w hw hr
    · unfold Tr.hpath at hr
      rw [if_neg hw] at hr
      obtain ⟨u, rfl⟩ := Int.eq_ofNat_of_zero_le (by omega : 0 ≤ w)
      have hq := Tr.heavy_rd h (v := u) (by omega)
      refine Ev_succ ?_
      simp only [spec_HeavyPaths.l1]
      refine evpos (by omega) (evpos (by omega) (evpos (by omega) (evpos (by omega) ?_)))
      exact ih (acc ++ [(u : Int)]) (rd (Tr.heavyL t) (u : Int)) (by omega) (by omega) (by simp; omega) (by simpa using hr)
theorem ev_HeavyPaths_i1 {d : List Int} {t : Tr.F} (h : Tr.Tree d t) (out : List (List Int)) (hout : out.length ≤ 1000) (v : Nat) (hv : v < t.size) {r : List (List Int) × Int} : ∀ (m : Nat) (acc : List Int) (w : Int), w < t.size → w < 0 ∨ (t.size : Int) < m + w → acc.length + m ≤ 1000 →
    Ev (fun k => impl_HeavyPaths.l0 k (Tr.heavyL t) (out ++ [acc ++ Tr.hpath (Tr.heavyL t) m w]) (t.size : Int) ((v + 1 : Nat) : Int)) r → Ev (fun k => impl_HeavyPaths.l1 k (Tr.heavyL t) out acc w (t.size : Int) (v : Int)) r := by
  have hle := h.le
  have hlen := h.len
  have hHl : (Tr.heavyL t).length = t.size := Tr.each_len _ _
  have stop : ∀ (m : Nat) (acc : List Int) (w : Int), w < 0 → Ev (fun k => impl_HeavyPaths.l0 k (Tr.heavyL t) (out ++ [acc ++ Tr.hpath (Tr.heavyL t) m w]) (t.size : Int) ((v + 1 : Nat) : Int)) r → Ev (fun k => impl_HeavyPaths.l1 k (Tr.heavyL t) out acc w (t.size : Int) (v : Int)) r := by
    intro m acc w hw hr
    rw [Tr.hpath_neg _ _ hw, List.append_nil] at hr
    refine Ev_succ ?_
    simp only [impl_HeavyPaths.l1]
    rw [Tr.wrap_succ (by omega)]
    exact evneg (by omega) (evpos (by omega) hr)
  intro m
  induction m with
  | zero =>
    intro acc w h2 h3 h4 hr
    exact stop 0 acc w (by omega) hr
  | succ m ih =>
    intro acc w h2 h3 h4 hr
    by_cases hw : w < 0
    · exact stop (m + 1) acc w hw hr
    · unfold Tr.hpath at hr
      rw [if_neg hw] at hr
      obtain ⟨u, rfl⟩ := Int.eq_ofNat_of_zero_le (by omega : 0 ≤ w)
      have hq := Tr.heavy_rd h (v := u) (by omega)
      refine Ev_succ ?_
      simp only [impl_HeavyPaths.l1]
      refine evpos (by omega) (evpos (by omega) (evpos (by omega) (evpos (by omega) ?_)))
      exact ih (acc ++ [(u : Int)]) (rd (Tr.heavyL t) (u : Int)) (by omega) (by omega) (by simp; omega) (by simpa using hr)
theorem light_eq {d : List Int} {t : Tr.F} (h : Tr.Tree d t) {v : Nat} (hv : v < t.size) : spec_l08Light.f (Tr.parentsL t) (Tr.heavyL t) (v : Int) = some (decide (¬ (v : Int) ∈ Tr.heavyL t)) := by
  have hHl : (Tr.heavyL t).length = t.size := Tr.each_len _ _
  have hPl : (Tr.parentsL t).length = t.size := Tr.each_len _ _
  unfold spec_l08Light.f
  by_cases h0 : v = 0
  · subst h0
    have hz := Tr.heavy_zero h
    rw [if_pos (by omega), decide_eq_true (by simpa using hz)]
  · have hp := h.par_pos (by omega : 1 ≤ v) hv
    have e : rd (Tr.parentsL t) (v : Int) = t.par 0 (-1) v := Tr.each_rd hv
    have hi := Tr.heavy_iff h (by omega : 1 ≤ v) hv
    rw [if_neg (by omega), if_pos (by omega), if_pos (by omega), e, if_pos (by omega), if_pos (by omega)]
    congr 1
    by_cases hm : (v : Int) ∈ Tr.heavyL t
    · rw [decide_eq_false (by simpa using hm), hi.1 hm]; simp
    · rw [decide_eq_true hm]
      have : rd (Tr.heavyL t) (t.par 0 (-1) v) ≠ (v : Int) := fun e => hm (hi.2 e)
      simpa using this
theorem ev_HeavyPaths_l0 {d : List Int} {t : Tr.F} (h : Tr.Tree d t) : ∀ (m v : Nat) (out : List (List Int)), v + m = t.size → out.length ≤ v →
    Ev (fun k => spec_HeavyPaths.l0 k (Tr.parentsL t) (Tr.heavyL t) out (v : Int) d) (Tr.hpaths t m v out, 0) ∧ Ev (fun k => impl_HeavyPaths.l0 k (Tr.heavyL t) out (t.size : Int) (v : Int)) (Tr.hpaths t m v out, 0) := by
  have hle := h.le
  have hlen := h.len
  have hHl : (Tr.heavyL t).length = t.size := Tr.each_len _ _
  intro m
  induction m with
  | zero =>
    intro v out hv ho
    refine ⟨Ev_succ ?_, Ev_succ ?_⟩
    · simp only [spec_HeavyPaths.l0, l01N_eq]
      exact evsome (evneg (by omega) (Ev.now _))
    · simp only [impl_HeavyPaths.l0]
      exact evneg (by omega) (Ev.now _)
  | succ m ih =>
    intro v out hv ho
    have e3 : wrap64 ((v : Int) + 1) = ((v + 1 : Nat) : Int) := Tr.wrap_succ (by omega)
    by_cases hm : (v : Int) ∈ Tr.heavyL t
    · obtain ⟨h1, h2⟩ := ih (v + 1) out (by omega) (by omega)
      unfold Tr.hpaths
      rw [if_pos hm]
      refine ⟨Ev_succ ?_, Ev_succ ?_⟩
      · simp only [spec_HeavyPaths.l0, l01N_eq]
        refine evsome (evpos (by omega) ?_)
        rw [light_eq h (by omega), e3]
        exact evsome (evneg (by simpa using hm) h1)
      · simp only [impl_HeavyPaths.l0]
        rw [e3]
        exact evpos (by omega) (Ev.bind (ev_Contains _ _ (by omega)) (evpos (decide_eq_true hm) h2))
    · obtain ⟨h1, h2⟩ := ih (v + 1) (out ++ [Tr.hpath (Tr.heavyL t) (t.size + 1) (v : Int)]) (by omega) (by simp; omega)
      unfold Tr.hpaths
      rw [if_neg hm]
      refine ⟨Ev_succ ?_, Ev_succ ?_⟩
      · simp only [spec_HeavyPaths.l0, l01N_eq]
        refine evsome (evpos (by omega) ?_)
        rw [light_eq h (by omega)]
        refine evsome (evpos (by simpa using hm) ?_)
        exact ev_HeavyPaths_s1 h _ out (by omega) v (by omega) (t.size + 1) [] (v : Int) (by omega) (by omega) (by simp; omega) (by simpa using h1)
      · simp only [impl_HeavyPaths.l0]
        refine evpos (by omega) (Ev.bind (ev_Contains _ _ (by omega)) (evneg (by simpa using hm) ?_))
        exact ev_HeavyPaths_i1 h out (by omega) v (by omega) (t.size + 1) [] (v : Int) (by omega) (by omega) (by simp; omega) (by simpa using h2)
/-- A code: bytes, not too many. -/
def Cod (C : List Int) : Prop := C.length ≤ 1000000 ∧ ∀ x ∈ C, 0 ≤ x ∧ x ≤ 255
theorem cod_rd {C : List Int} (h : Cod C) (i : Int) : 0 ≤ rd C i ∧ rd C i ≤ 255 := by
  unfold rd
  rw [List.getD_eq_getElem?_getD]
  cases hl : C[i.toNat]? with
  | none => simp
  | some x => simpa using h.2 x (List.mem_of_getElem? hl)
theorem next_ok {C : List Int} (hC : Cod C) {a h : Int} (ha : 0 ≤ a ∧ a ≤ (C.length : Int)) (n : Int) : ∃ r a' h', spec_l01Next.f C a h n = some (r, a', h') ∧ 0 ≤ r ∧ (r < n ∨ r = 0) ∧ (0 ≤ a' ∧ a' ≤ (C.length : Int)) := by
  have hl := hC.1
  have hr := cod_rd hC a
  have hh := Dr.hash_in (IntKind.u64.wrap (h * 6364136223846793005) + 1442695040888963407)
  unfold spec_l01Next.f
  generalize Go.bits .and .u64 (IntKind.u64.wrap (IntKind.u64.wrap (h * 6364136223846793005) + 1442695040888963407) / 8589934592) 16777215 = X at hh ⊢
  have eX : wrap64 X = X := Tr.wrap_id (by omega) (by omega)
  rw [eX]
  by_cases h1 : n < 1
  · rw [if_pos h1]; exact ⟨0, a, h, rfl, by omega, .inr rfl, ha⟩
  · rw [if_neg h1]
    by_cases h2 : a < (C.length : Int)
    · rw [if_pos h2, if_pos ha.1, if_neg (by omega)]
      have e1 : wrap64 (rd C a) = rd C a := Tr.wrap_id (by omega) (by omega)
      have e2 : wrap64 (a + 1) = a + 1 := Tr.wrap_id (by omega) (by omega)
      rw [e1, e2]
      clear e1 e2 eX
      rw [Tr.wrap_id (x := X + rd C a) (by omega) (by omega)]
      have ht := Dr.tmod_in (a := X + rd C a) (b := n) (by omega) (by omega)
      exact ⟨_, _, _, rfl, ht.1, .inl ht.2, by omega, by omega⟩
    · rw [if_neg h2, if_neg (by omega)]
      have ht := Dr.tmod_in (a := X) (b := n) (by omega) (by omega)
      exact ⟨_, _, _, rfl, ht.1, .inl ht.2, ha⟩
theorem pick_ok {C : List Int} (hC : Cod C) {a h : Int} (ha : 0 ≤ a ∧ a ≤ (C.length : Int)) (l : List Int) (hl : 1 ≤ l.length) : ∃ r a' h', spec_l01Pick.f C a h l = some (r, a', h') ∧ r ∈ l ∧ (0 ≤ a' ∧ a' ≤ (C.length : Int)) := by
  obtain ⟨r, a', h', h1, h2, h3, h4⟩ := next_ok hC (h := h) ha (l.length : Int)
  unfold spec_l01Pick.f
  rw [h1, Option.bind_some]
  dsimp only
  rw [if_pos h2, if_pos (by omega)]
  exact ⟨_, _, _, rfl, Tr.rd_mem h2 (by omega), h4⟩
theorem near_ok {C : List Int} (hC : Cod C) {a h : Int} (ha : 0 ≤ a ∧ a ≤ (C.length : Int)) (n : Int) : ∃ r a' h', spec_l01Near.f C a h n = some (r, a', h') ∧ (0 ≤ a' ∧ a' ≤ (C.length : Int)) := by
  obtain ⟨r, a1, h1, e1, _, _, h2⟩ := next_ok hC (h := h) ha 14
  unfold spec_l01Near.f
  simp only [e1, Option.bind_some]
  by_cases h0 : r = 0
  · rw [if_pos h0]
    have hLl : 1 ≤ ([(-1), wrap64 (n + 1), 1099511627776, (-4611686018427387904)] : List Int).length := Nat.succ_le_succ (Nat.zero_le _)
    generalize ([(-1), wrap64 (n + 1), 1099511627776, (-4611686018427387904)] : List Int) = L at hLl ⊢
    obtain ⟨r2, a2, h3, e2, _, h4⟩ := pick_ok hC (h := h1) h2 L hLl
    simp only [e2, Option.bind_some]
    exact ⟨_, _, _, rfl, h4⟩
  · rw [if_neg h0]
    obtain ⟨r2, a2, h3, e2, _, _, h4⟩ := next_ok hC (h := h1) h2 (wrap64 (n + 1))
    simp only [e2, Option.bind_some]
    exact ⟨_, _, _, rfl, h4⟩
theorem evat {α β : Type} {g : Option α} {a : α} {f : Nat → α → Option β} {r : β} (e : g = some a) (h : Ev (fun n => f n a) r) : Ev (fun n => g.bind (f n)) r := by subst e; exact h
/-- A tree that is being drawn: as many numbers as nodes, the way within. -/
theorem ev_l01DrawOf_l1 {C : List Int} (hC : Cod C) {n : Int} {X : (List Int × Int × Int) → Prop} (deg way : List Int) (deep v : Int) (hd : deg.length ≤ 1000) (hw : way.length ≤ 1000) (hw1 : 1 ≤ way.length) (hway : ∀ x ∈ way, 0 ≤ x ∧ x < (deg.length : Int))
    (hfin : ∀ (deg' way' : List Int) (a h : Int), deg'.length = deg.length + 1 → 1 ≤ way'.length → way'.length ≤ way.length + 1 → (∀ x ∈ way', (0 ≤ x ∧ x < (deg.length : Int)) ∨ x = v) → (0 ≤ a ∧ a ≤ (C.length : Int)) → ∃ r, X r ∧ Ev (fun k => spec_l01DrawOf.l0 k n deg' way' deep (wrap64 (v + 1)) C a h) r) : ∀ (m : Nat) (a h : Int), m < way.length → (0 ≤ a ∧ a ≤ (C.length : Int)) →
    ∃ r, X r ∧ Ev (fun k => spec_l01DrawOf.l1 k n deg way deep v (m : Int) C a h) r := by
  have hput : ∀ (m : Nat) (a h : Int), m < way.length → (0 ≤ a ∧ a ≤ (C.length : Int)) → ∃ r, X r ∧ Ev (fun k => (if 0 ≤ (m : Int) then (if (m : Int) < (way.length : Int) then (if 0 ≤ (rd way (m : Int)) then (if (rd way (m : Int)) < (deg.length : Int) then ((some (deg.set ((rd way (m : Int)) : Int).toNat (wrap64 ((rd deg (rd way (m : Int))) + 1)) : List Int)).bind fun y163 => (if 0 ≤ (wrap64 ((m : Int) + 1)) then (if (wrap64 ((m : Int) + 1)) ≤ (way.length : Int) then ((spec_l01Own.f (way.take ((wrap64 ((m : Int) + 1)) : Int).toNat)).bind fun t168 => (if t168.length < 17592186044416 then (if y163.length < 17592186044416 then (spec_l01DrawOf.l0 k n (y163 ++ [0]) (t168 ++ [v]) deep (wrap64 (v + 1)) C a h) else (none)) else (none))) else (none)) else (none))) else (none)) else (none)) else (none)) else (none))) r := by
    intro m a h hm ha
    have hx := hway (rd way (m : Int)) (Tr.rd_mem (by omega) (by omega))
    obtain ⟨r, h1, h2⟩ := hfin (deg.set (rd way (m : Int)).toNat (wrap64 (rd deg (rd way (m : Int)) + 1)) ++ [0]) (way.take (m + 1) ++ [v]) a h (by simp) (by simp) (by simp; omega) (fun x hx => by
      rcases List.mem_append.mp hx with hx | hx
      · exact .inl (hway x (List.mem_of_mem_take hx))
      · exact .inr (by simpa using hx)) ha
    refine ⟨r, h1, ?_⟩
    rw [Tr.wrap_succ (by omega), Int.toNat_natCast]
    have ho : spec_l01Own.f (way.take (m + 1)) = some (way.take (m + 1)) := by
      unfold spec_l01Own.f
      rw [Option.bind_some, if_pos (by rw [List.length_nil, List.length_take]; omega)]; rfl
    rw [ho]
    exact evpos (by omega) (evpos (by omega) (evpos hx.1 (evpos hx.2 (evsome (evpos (by omega) (evpos (by omega) (evsome (evpos (by rw [List.length_take]; omega) (evpos (by rw [List.length_set]; omega) h2)))))))))
  intro m
  induction m with
  | zero =>
    intro a h hm ha
    obtain ⟨r, h1, h2⟩ := hput 0 a h hm ha
    refine ⟨r, h1, Ev_succ ?_⟩
    simp only [spec_l01DrawOf.l1]
    exact evneg (by omega) h2
  | succ m ih =>
    intro a h hm ha
    obtain ⟨q, a', h', e1, _, _, h2⟩ := next_ok hC (h := h) ha deep
    by_cases hq : q = 0
    · obtain ⟨r, h3, h4⟩ := ih a' h' (by omega) h2
      refine ⟨r, h3, Ev_succ ?_⟩
      simp only [spec_l01DrawOf.l1]
      refine evpos (by omega) (evat e1 (evpos hq ?_))
      rw [show wrap64 (((m + 1 : Nat) : Int) - 1) = (m : Int) by rw [Tr.wrap_id (by omega) (by omega)]; omega]
      exact h4
    · obtain ⟨r, h3, h4⟩ := hput (m + 1) a' h' hm h2
      refine ⟨r, h3, Ev_succ ?_⟩
      simp only [spec_l01DrawOf.l1]
      exact evpos (by omega) (evat e1 (evneg hq h4))
theorem ev_l01DrawOf_l0 {C : List Int} (hC : Cod C) {n : Nat} (hn : n ≤ 100) {deep : Int} : ∀ (m v : Nat) (deg way : List Int) (a h : Int), v + m = max n 1 → deg.length = v → 1 ≤ v → 1 ≤ way.length → way.length ≤ v → (∀ x ∈ way, 0 ≤ x ∧ x < (v : Int)) → (0 ≤ a ∧ a ≤ (C.length : Int)) →
    ∃ r, (r.1.length = max n 1 ∧ (0 ≤ r.2.1 ∧ r.2.1 ≤ (C.length : Int))) ∧ Ev (fun k => spec_l01DrawOf.l0 k (n : Int) deg way deep (v : Int) C a h) r := by
  intro m
  induction m with
  | zero =>
    intro v deg way a h hv hd h1 hw1 hw hway ha
    refine ⟨(deg, a, h), ⟨by simp only; omega, ha⟩, Ev_succ ?_⟩
    simp only [spec_l01DrawOf.l0]
    exact evneg (by omega) (Ev.now _)
  | succ m ih =>
    intro v deg way a h hv hd h1 hw1 hw hway ha
    obtain ⟨r, h2, h3⟩ := ev_l01DrawOf_l1 hC (n := (n : Int)) (X := fun r => r.1.length = max n 1 ∧ (0 ≤ r.2.1 ∧ r.2.1 ≤ (C.length : Int))) deg way deep (v : Int) (by omega) (by omega) hw1 (by rw [hd]; exact hway) (fun deg' way' a' h' l1 l2 l3 l4 l5 => by
      rw [Tr.wrap_succ (by omega)]
      exact ih (v + 1) deg' way' a' h' (by omega) (by omega) (by omega) l2 (by omega) (fun x hx => by rcases l4 x hx with q | q <;> omega) l5) (way.length - 1) a h (by omega) ha
    refine ⟨r, h2, Ev_succ ?_⟩
    simp only [spec_l01DrawOf.l0]
    refine evpos (by omega) ?_
    rw [show wrap64 ((way.length : Int) - 1) = ((way.length - 1 : Nat) : Int) by rw [Tr.wrap_id (by omega) (by omega)]; omega]
    exact h3
theorem ev_l01DrawOf {C : List Int} (hC : Cod C) {a h : Int} (ha : 0 ≤ a ∧ a ≤ (C.length : Int)) (n : Nat) (hn : n ≤ 100) : ∃ r, (r.1.length = max n 1 ∧ (0 ≤ r.2.1 ∧ r.2.1 ≤ (C.length : Int))) ∧ Ev (fun k => spec_l01DrawOf.f k C a h (n : Int)) r := by
  obtain ⟨d, a', h', e1, _, h2⟩ := pick_ok hC (h := h) ha [1, 2, 4, 30] (by simp)
  obtain ⟨r, h3, h4⟩ := ev_l01DrawOf_l0 hC hn (deep := d) (max n 1 - 1) 1 [0] [0] a' h' (by omega) rfl (by omega) (by simp) (by simp) (by simp) h2
  refine ⟨r, h3, ?_⟩
  unfold spec_l01DrawOf.f
  rw [e1]
  exact evsome h4
theorem ev_l01Small {C : List Int} (hC : Cod C) {a h : Int} (ha : 0 ≤ a ∧ a ≤ (C.length : Int)) : ∃ r, ((1 ≤ r.1.length ∧ r.1.length ≤ 24) ∧ (0 ≤ r.2.1 ∧ r.2.1 ≤ (C.length : Int))) ∧ Ev (fun k => spec_l01Small.f k C a h) r := by
  obtain ⟨n, a1, h1, e1, n0, n1, s1⟩ := next_ok hC (h := h) ha 6
  obtain ⟨m, hm⟩ := Int.eq_ofNat_of_zero_le n0
  obtain ⟨r, ⟨l, s2⟩, h2⟩ := ev_l01DrawOf hC (h := h1) s1 (m + 1) (by omega)
  refine ⟨r, ⟨by omega, s2⟩, ?_⟩
  unfold spec_l01Small.f
  refine evat e1 ?_
  dsimp only
  rw [show wrap64 (1 + n) = ((m + 1 : Nat) : Int) by rw [Tr.wrap_id (by omega) (by omega)]; omega]
  exact Ev.bind h2 (Ev.now _)
theorem ev_l01Join_l0 (L : List S26) (hL : L.length ≤ 1000) (hs : ∀ x ∈ L, x.f0.length ≤ 1000) : ∀ (S Pre : List S26) (acc : List Int), L = Pre ++ S → 1 ≤ acc.length → acc.length ≤ 24 → ∃ r, (r.2 = true → 1 ≤ r.1.length ∧ r.1.length ≤ 24) ∧ Ev (fun k => spec_l01Join.l0 k L acc (Pre.length : Int)) r := by
  intro S
  induction S with
  | nil =>
    intro Pre acc hS h1 h2
    rw [List.append_nil] at hS
    subst hS
    refine ⟨(acc, true), fun _ => ⟨h1, h2⟩, Ev_succ ?_⟩
    simp only [spec_l01Join.l0]
    exact evneg (by omega) (Ev.now _)
  | cons x S ih =>
    intro Pre acc hS h1 h2
    have hlen : L.length = Pre.length + (S.length + 1) := by rw [hS]; simp
    have hx := hs x (by rw [hS]; simp)
    have e : rd_T26 L (Pre.length : Int) = x := by
      unfold rd_T26
      first
        | (rw [hS, List.getD_eq_getElem?_getD, Int.toNat_natCast, List.getElem?_append_right (Nat.le_refl _), Nat.sub_self]; rfl)
        | (unfold rdOf; rw [hS, List.getD_eq_getElem?_getD, Int.toNat_natCast, List.getElem?_append_right (Nat.le_refl _), Nat.sub_self]; rfl)
    by_cases h3 : ((acc ++ x.f0).length : Int) > 24
    · refine ⟨([], false), fun h => (by cases h), Ev_succ ?_⟩
      simp only [spec_l01Join.l0, e]
      exact evpos (by omega) (evpos (by omega) (evpos (by omega) (evsome (evpos h3 (Ev.now _)))))
    · obtain ⟨r, h4, h5⟩ := ih (Pre ++ [x]) (acc ++ x.f0) (by rw [hS]; simp) (by rw [List.length_append]; omega) (by omega)
      refine ⟨r, h4, Ev_succ ?_⟩
      simp only [spec_l01Join.l0, e]
      rw [show wrap64 ((Pre.length : Int) + 1) = ((Pre ++ [x]).length : Int) by rw [Tr.wrap_id (by omega) (by omega)]; simp]
      exact evpos (by omega) (evpos (by omega) (evpos (by omega) (evsome (evneg h3 h5))))
theorem ev_l01Join (L : List S26) (hL : L.length ≤ 1000) (hs : ∀ x ∈ L, x.f0.length ≤ 1000) : ∃ r, (r.2 = true → 1 ≤ r.1.length ∧ r.1.length ≤ 24) ∧ Ev (fun k => spec_l01Join.f k L) r := by
  unfold spec_l01Join.f
  exact ev_l01Join_l0 L hL hs L [] _ rfl (by simp) (by simp)
theorem ev_l01Draw_rest {C : List Int} (hC : Cod C) {a h : Int} (ha : 0 ≤ a ∧ a ≤ (C.length : Int)) : ∃ r, ((1 ≤ r.1.length ∧ r.1.length ≤ 24) ∧ (0 ≤ r.2.1 ∧ r.2.1 ≤ (C.length : Int))) ∧ Ev (fun k => ((spec_l01Pick.f C a h (([8, 12, 24] : List Int))).bind fun bt259 => ((spec_l01Next.f C bt259.2.1 bt259.2.2 bt259.1).bind fun bt262 => ((spec_l01DrawOf.f k C bt262.2.1 bt262.2.2 (wrap64 (1 + bt262.1))).bind fun bt265 => (some (bt265.1, bt265.2.1, bt265.2.2)))))) r := by
  obtain ⟨n, a1, h1, e1, n1, s1⟩ := pick_ok hC (h := h) ha [8, 12, 24] (by simp)
  obtain ⟨q, a2, h2, e2, q0, q1, s2⟩ := next_ok hC (h := h1) s1 n
  have hn : 8 ≤ n ∧ n ≤ 24 := by
    simp only [List.mem_cons, List.mem_nil_iff, or_false] at n1
    omega
  obtain ⟨m, hm⟩ := Int.eq_ofNat_of_zero_le q0
  obtain ⟨r, ⟨l, s3⟩, h3⟩ := ev_l01DrawOf hC (h := h2) s2 (m + 1) (by omega)
  refine ⟨r, ⟨by omega, s3⟩, evat e1 (evat e2 ?_)⟩
  dsimp only
  rw [show wrap64 (1 + q) = ((m + 1 : Nat) : Int) by rw [Tr.wrap_id (by omega) (by omega)]; omega]
  exact Ev.bind h3 (Ev.now _)
theorem ev_l01Draw_l0 {C u : List Int} (hC : Cod C) (hu : u.length ≤ 1000) : ∀ (m : Nat) (L : List S26) (a h : Int), L.length + m ≤ 100 → (∀ x ∈ L, x.f0.length ≤ 1000) → (0 ≤ a ∧ a ≤ (C.length : Int)) → ∃ r, ((1 ≤ r.1.length ∧ r.1.length ≤ 24) ∧ (0 ≤ r.2.1 ∧ r.2.1 ≤ (C.length : Int))) ∧ Ev (fun k => spec_l01Draw.l0 k L (m : Int) C a h u) r := by
  intro m
  induction m with
  | zero =>
    intro L a h hL hs ha
    obtain ⟨j, hj1, hj2⟩ := ev_l01Join L (by omega) hs
    by_cases hj : j.2 = true
    · refine ⟨(j.1, a, h), ⟨hj1 hj, ha⟩, Ev_succ ?_⟩
      simp only [spec_l01Draw.l0]
      exact evneg (by omega) (Ev.bind hj2 (evpos hj (Ev.now _)))
    · obtain ⟨r, h1, h2⟩ := ev_l01Draw_rest hC (h := h) ha
      refine ⟨r, h1, Ev_succ ?_⟩
      simp only [spec_l01Draw.l0]
      exact evneg (by omega) (Ev.bind hj2 (evneg hj h2))
  | succ m ih =>
    intro L a h hL hs ha
    obtain ⟨r, h1, h2⟩ := ih (L ++ [⟨u⟩]) a h (by simp; omega) (fun x hx => by
      rcases List.mem_append.mp hx with hx | hx
      · exact hs x hx
      · rw [List.mem_singleton] at hx; subst hx; exact hu) ha
    refine ⟨r, h1, Ev_succ ?_⟩
    simp only [spec_l01Draw.l0]
    rw [show wrap64 (((m + 1 : Nat) : Int) - 1) = (m : Int) by rw [Tr.wrap_id (by omega) (by omega)]; omega]
    exact evpos (by omega) (evpos (by omega) h2)
theorem ev_l01Draw {C : List Int} (hC : Cod C) {a h : Int} (ha : 0 ≤ a ∧ a ≤ (C.length : Int)) : ∃ r, ((1 ≤ r.1.length ∧ r.1.length ≤ 24) ∧ (0 ≤ r.2.1 ∧ r.2.1 ≤ (C.length : Int))) ∧ Ev (fun k => spec_l01Draw.f k C a h) r := by
  obtain ⟨n, a1, h1, e1, n0, n1, s1⟩ := next_ok hC (h := h) ha 5
  unfold spec_l01Draw.f
  by_cases c0 : n = 0
  · obtain ⟨r, h2, h3⟩ := ev_l01Small hC (h := h1) s1
    exact ⟨r, h2, evat e1 (evpos c0 (Ev.bind h3 (Ev.now _)))⟩
  by_cases c1 : n = 1
  · obtain ⟨q, a2, h2, e2, q0, q1, s2⟩ := next_ok hC (h := h1) s1 5
    obtain ⟨m, hm⟩ := Int.eq_ofNat_of_zero_le q0
    obtain ⟨u, ⟨l, s3⟩, h3⟩ := ev_l01DrawOf hC (h := h2) s2 (m + 1) (by omega)
    obtain ⟨p, a4, h4, e4, p0, p1, s4⟩ := next_ok hC (h := u.2.2) s3 5
    obtain ⟨w, hw⟩ := Int.eq_ofNat_of_zero_le p0
    obtain ⟨r, h5, h6⟩ := ev_l01Draw_l0 hC (u := u.1) (by omega) w [] a4 h4 (by simp; omega) (by simp) s4
    refine ⟨r, h5, evat e1 (evneg c0 (evpos c1 (evat e2 ?_)))⟩
    dsimp only
    rw [show wrap64 (1 + q) = ((m + 1 : Nat) : Int) by rw [Tr.wrap_id (by omega) (by omega)]; omega]
    refine Ev.bind h3 (evat e4 ?_)
    dsimp only
    rw [hw]
    exact h6
  · obtain ⟨r, h2, h3⟩ := ev_l01Draw_rest hC (h := h1) s1
    exact ⟨r, h2, evat e1 (evneg c0 (evneg c1 h3))⟩
theorem ev_l01From_l0 {C : List Int} (hC : Cod C) : ∀ (m i : Nat) (h : Int), i + m = C.length → ∃ h', Ev (fun k => spec_l01From.l0 k C (i : Int) C 0 h) (C, 0, h') := by
  have hl := hC.1
  intro m
  induction m with
  | zero =>
    intro i h hi
    refine ⟨h, Ev_succ ?_⟩
    simp only [spec_l01From.l0]
    exact evneg (by omega) (Ev.now _)
  | succ m ih =>
    intro i h hi
    by_cases c : (i : Int) < 4096
    · obtain ⟨h', h2⟩ := ih (i + 1) (IntKind.u64.wrap ((IntKind.u64.wrap ((IntKind.u64.wrap (h * 1099511628211)) + (IntKind.u64.wrap (rd C (i : Int))))) + 233)) (by omega)
      refine ⟨h', Ev_succ ?_⟩
      simp only [spec_l01From.l0]
      rw [Tr.wrap_succ (by omega)]
      exact evpos (by omega) (evpos c (evpos (by omega) h2))
    · refine ⟨h, Ev_succ ?_⟩
      simp only [spec_l01From.l0]
      exact evpos (by omega) (evneg c (Ev.now _))
theorem ev_l01From {C : List Int} (hC : Cod C) : ∃ h', Ev (fun k => spec_l01From.f k C) (C, 0, h') := by
  unfold spec_l01From.f
  exact ev_l01From_l0 hC C.length 0 _ (by omega)
theorem ev_l01Bad {C : List Int} (hC : Cod C) {a h : Int} (ha : 0 ≤ a ∧ a ≤ (C.length : Int)) (d : List Int) (hd : 1 ≤ d.length ∧ d.length ≤ 24) : ∃ r, (r.1.length ≤ 25 ∧ (0 ≤ r.2.1 ∧ r.2.1 ≤ (C.length : Int))) ∧ spec_l01Bad.f C a h d = some r := by
  obtain ⟨n, a1, h1, e1, n0, n1, s1⟩ := next_ok hC (h := h) ha 50
  have hc : spec_l01Copy.f d = some d := by
    unfold spec_l01Copy.f
    rw [l01Make_eq d (by omega)]; rfl
  obtain ⟨q, a2, h2, e2, q0, q1, s2⟩ := next_ok hC (h := h1) s1 (d.length : Int)
  obtain ⟨x, a3, h3, e3, _, s3⟩ := pick_ok hC (h := h2) s2 [(-1), 0, 1, 2, 25] (by simp)
  unfold spec_l01Bad.f
  rw [hc, Option.bind_some, e1, Option.bind_some]
  dsimp only
  by_cases c0 : n = 0
  · rw [if_pos c0]; exact ⟨_, ⟨by simp, s1⟩, rfl⟩
  rw [if_neg c0]
  by_cases c1 : n = 1
  · rw [if_pos c1, l01N_eq, Option.bind_some, e2, Option.bind_some]
    dsimp only
    rw [e3, Option.bind_some]
    dsimp only
    rw [if_pos q0, if_pos (by omega)]
    exact ⟨_, ⟨by rw [List.length_set]; omega, s3⟩, rfl⟩
  rw [if_neg c1]
  by_cases c2 : n = 2
  · rw [if_pos c2, if_pos (by omega)]
    exact ⟨_, ⟨by rw [List.length_append, List.length_singleton]; omega, s1⟩, rfl⟩
  · rw [if_neg c2]; exact ⟨_, ⟨by simp only; omega, s1⟩, rfl⟩
theorem ev_l01Spoil {C : List Int} (hC : Cod C) {a h : Int} (ha : 0 ≤ a ∧ a ≤ (C.length : Int)) : ∃ r, (r.1.length ≤ 25 ∧ (0 ≤ r.2.1 ∧ r.2.1 ≤ (C.length : Int))) ∧ Ev (fun k => spec_l01Spoil.f k C a h) r := by
  obtain ⟨u, ⟨hu, s1⟩, h1⟩ := ev_l01Draw hC (h := h) ha
  obtain ⟨r, h2, h3⟩ := ev_l01Bad hC (h := u.2.2) s1 u.1 hu
  refine ⟨r, h2, ?_⟩
  unfold spec_l01Spoil.f
  exact Ev.bind h1 (evat h3 (Ev.now _))
theorem ev_l01With {C : List Int} (hC : Cod C) : ∃ r, r.1.length ≤ 25 ∧ Ev (fun k => spec_l01With.f k C) r := by
  obtain ⟨h0, e0⟩ := ev_l01From hC
  obtain ⟨u, ⟨hu, s1⟩, h1⟩ := ev_l01Draw hC (h := h0) (a := 0) ⟨by omega, by omega⟩
  obtain ⟨v, a2, h2, e2, s2⟩ := near_ok hC (h := u.2.2) s1 (wrap64 ((u.1.length : Int) - 1))
  obtain ⟨w, a3, h3, e3, s3⟩ := near_ok hC (h := h2) s2 (wrap64 ((u.1.length : Int) - 1))
  obtain ⟨r, ⟨h4, _⟩, h5⟩ := ev_l01Bad hC (h := h3) s3 u.1 hu
  refine ⟨(r.1, v, w), h4, ?_⟩
  unfold spec_l01With.f
  refine Ev.bind e0 (Ev.bind h1 ?_)
  dsimp only
  rw [l01N_eq]
  exact evsome (evat e2 (evsome (evat e3 (evat h5 (Ev.now _)))))
theorem ev_DrawHeavyPaths {C : List Int} (hC : Cod C) : ∃ d, d.length ≤ 25 ∧ Ev (fun k => spec_DrawHeavyPaths.f k C) d := by
  obtain ⟨h0, e0⟩ := ev_l01From hC
  obtain ⟨r, ⟨h1, _⟩, h2⟩ := ev_l01Spoil hC (h := h0) (a := 0) ⟨by omega, by omega⟩
  refine ⟨r.1, h1, ?_⟩
  unfold spec_DrawHeavyPaths.f
  exact Ev.bind e0 (Ev.bind h2 (Ev.now _))
theorem ev_DrawLightSteps {C : List Int} (hC : Cod C) : ∃ r, r.1.length ≤ 25 ∧ Ev (fun k => spec_DrawLightSteps.f k C) r := by
  obtain ⟨r, h1, h2⟩ := ev_l01With hC
  refine ⟨(r.1, r.2.1), h1, ?_⟩
  unfold spec_DrawLightSteps.f spec_DrawIntervalOf.f
  exact Ev.bind (Ev.bind h2 (Ev.now _)) (Ev.now _)
theorem ev_DrawAncestorOf {C : List Int} (hC : Cod C) : ∃ r, r.1.length ≤ 25 ∧ Ev (fun k => spec_DrawAncestorOf.f k C) r := by
  obtain ⟨h0, e0⟩ := ev_l01From hC
  obtain ⟨r, h1, h2⟩ := ev_l01With hC
  obtain ⟨x, a3, h3, e3, _, s3⟩ := pick_ok hC (h := h0) (a := 0) ⟨by omega, by omega⟩ [2, 4, 24] (by simp)
  obtain ⟨v, a2, h4, e2, s2⟩ := near_ok hC (h := h3) s3 x
  refine ⟨(r.1, r.2.1, v), h1, ?_⟩
  unfold spec_DrawAncestorOf.f
  refine Ev.bind e0 (Ev.bind h2 ?_)
  exact evat e3 (evat e2 (Ev.now _))
theorem ev_likeInts_l0 (xs : List Int) (hb : xs.length ≤ 1000000) : ∀ (n i : Nat), i + n = xs.length → Ev (fun k => laws_likeInts.l0 k xs xs (i : Int)) true := by
  intro n
  induction n with
  | zero => intro i h; refine Ev_succ ?_; simp only [laws_likeInts.l0]; exact evneg (by omega) (Ev.now _)
  | succ n ih =>
    intro i h
    refine Ev_succ ?_
    simp only [laws_likeInts.l0]
    refine evpos (by omega) (evpos (by omega) (evpos (by omega) (evpos (by first | rfl | trivial) ?_)))
    rw [Tr.wrap_succ (by omega)]
    exact ih (i + 1) (by omega)
theorem ev_likeInts (xs : List Int) (hb : xs.length ≤ 1000000) : Ev (fun k => laws_likeInts.f k xs xs) true := by
  unfold laws_likeInts.f
  exact evpos rfl (ev_likeInts_l0 xs hb xs.length 0 (by omega))
theorem ev_rows9_l0 (xs : List (List Int)) (hb : xs.length ≤ 1000000) (hx : ∀ x ∈ xs, x.length ≤ 1000000) : ∀ (n i : Nat), i + n = xs.length → Ev (fun k => laws_rows9.l0 k xs xs (i : Int)) true := by
  intro n
  induction n with
  | zero => intro i h; refine Ev_succ ?_; simp only [laws_rows9.l0]; exact evneg (by omega) (Ev.now _)
  | succ n ih =>
    intro i h
    refine Ev_succ ?_
    simp only [laws_rows9.l0]
    have hm : (rd_L2 xs (i : Int)) ∈ xs := by
      unfold rd_L2
      rw [Int.toNat_natCast, List.getD_eq_getElem?_getD, List.getElem?_eq_getElem (by omega)]
      exact List.getElem_mem _
    refine evpos (by omega) (evpos (by omega) (evpos (by omega) (Ev.bind (ev_likeInts _ (hx _ hm)) (evpos rfl ?_))))
    rw [Tr.wrap_succ (by omega)]
    exact ih (i + 1) (by omega)
theorem ev_rows9 (xs : List (List Int)) (hb : xs.length ≤ 1000000) (hx : ∀ x ∈ xs, x.length ≤ 1000000) : Ev (fun k => laws_rows9.f k xs xs) true := by
  unfold laws_rows9.f
  exact evpos rfl (ev_rows9_l0 xs hb hx xs.length 0 (by omega))
theorem ev_hp_tree {d : List Int} {t : Tr.F} (h : Tr.Tree d t) : Ev (fun k => spec_HeavyPaths.f k d) (Tr.hpaths t t.size 0 [], 0) ∧ Ev (fun k => impl_HeavyPaths.f k d) (Tr.hpaths t t.size 0 [], 0) ∧ Ev (fun k => spec_HeavyChildren.f k d) (Tr.heavyL t, 0) ∧ Ev (fun k => impl_HeavyChildren.f k d) (Tr.heavyL t, 0) := by
  have hHl : (Tr.heavyL t).length = t.size := Tr.each_len _ _
  obtain ⟨h1, h2⟩ := ev_HeavyPaths_l0 h t.size 0 [] (by omega) (by simp)
  refine ⟨?_, ?_, ?_, ?_⟩
  · unfold spec_HeavyPaths.f
    exact Ev.bind (ev_l01Is d) (evpos h.isT (Ev.bind (ev_l01Parents h) (Ev.bind (ev_l08Heavy h) h1)))
  · unfold impl_HeavyPaths.f
    refine Ev.bind (ev_IsTree d) (evpos h.isT (Ev.bind (ev_heavyChildren h) ?_))
    rw [hHl]
    exact h2
  · unfold spec_HeavyChildren.f; exact Ev.bind (ev_l01Is d) (evpos h.isT (Ev.bind (ev_l08Heavy h) (Ev.now _)))
  · unfold impl_HeavyChildren.f; exact Ev.bind (ev_IsTree d) (evpos h.isT (Ev.bind (ev_heavyChildren h) (Ev.now _)))
theorem ev_hp_none {d : List Int} (h : Tr.isT d = false) : Ev (fun k => spec_HeavyPaths.f k d) ([], 1) ∧ Ev (fun k => impl_HeavyPaths.f k d) ([], 1) ∧ Ev (fun k => spec_HeavyChildren.f k d) ([], 1) ∧ Ev (fun k => impl_HeavyChildren.f k d) ([], 1) := by
  refine ⟨?_, ?_, ?_, ?_⟩
  · unfold spec_HeavyPaths.f; exact Ev.bind (ev_l01Is d) (evneg (by simp [h]) (Ev.now _))
  · unfold impl_HeavyPaths.f; exact Ev.bind (ev_IsTree d) (evneg (by simp [h]) (Ev.now _))
  · unfold spec_HeavyChildren.f; exact Ev.bind (ev_l01Is d) (evneg (by simp [h]) (Ev.now _))
  · unfold impl_HeavyChildren.f; exact Ev.bind (ev_IsTree d) (evneg (by simp [h]) (Ev.now _))
theorem ev_Light2_l0 {d : List Int} {t : Tr.F} (h : Tr.Tree d t) : ∀ (m v n : Nat), v < m → v < t.size → n + v ≤ 1000 → 2 ^ n ≤ 1 + (t.sub v).size →
    ∃ n' : Nat, 2 ^ n' ≤ t.size ∧ Ev (fun k => spec_LightSteps.l0 k (v : Int) (Tr.parentsL t) (Tr.heavyL t) (n : Int)) ((n' : Int), 0) ∧ Ev (fun k => impl_LightSteps.l0 k (v : Int) (Tr.heavyL t) (Tr.parentsL t) (n : Int)) ((n' : Int), 0) := by
  have hle := h.le
  have hlen := h.len
  have hpl : (Tr.parentsL t).length = t.size := Tr.each_len _ _
  have hhl : (Tr.heavyL t).length = t.size := Tr.each_len _ _
  intro m
  induction m with
  | zero => intro v n hv; omega
  | succ m ih =>
    intro v n hv hs hb hpow
    by_cases hz : v = 0
    · refine ⟨n, ?_, Ev_succ ?_, Ev_succ ?_⟩
      · subst hz; rw [Tr.whole_size h] at hpow; exact hpow
      · simp only [spec_LightSteps.l0]
        exact evneg (by omega) (Ev.now _)
      · simp only [impl_LightSteps.l0]
        exact evneg (by omega) (Ev.now _)
    · have hp := h.par_pos (c := v) (by omega) hs
      obtain ⟨q, hq⟩ : ∃ q : Nat, t.par 0 (-1) v = (q : Int) := ⟨(t.par 0 (-1) v).toNat, by omega⟩
      have hiff := Tr.heavy_iff h (v := v) (by omega) hs
      obtain ⟨st1, st2, st3⟩ := Tr.step_size h (v := v) (p := q) (by omega) hs hq
      rw [hq] at hiff hp
      have hr : rd (Tr.parentsL t) (v : Int) = q := (Tr.each_rd hs).trans hq
      clear hq
      by_cases hm : (v : Int) ∈ Tr.heavyL t
      · obtain ⟨n', h0, h1, h2⟩ := ih q n (by omega) (by omega) (by omega) (by omega)
        have e := hiff.1 hm
        refine ⟨n', h0, Ev_succ ?_, Ev_succ ?_⟩
        · simp only [spec_LightSteps.l0]
          have e2 : spec_l08Light.f (Tr.parentsL t) (Tr.heavyL t) (v : Int) = some false := by
            unfold spec_l08Light.f
            rw [hr, if_neg (by omega), if_pos (by omega), if_pos (by omega), if_pos (by omega), if_pos (by omega), e]
            simp
          rw [e2, hr]
          clear e hr
          exact evpos (by omega) (evsome (evneg (by simp) (evpos (by omega) (evpos (by omega) h1))))
        · simp only [impl_LightSteps.l0]
          rw [hr]
          clear e hr
          exact evpos (by omega) (Ev.bind (ev_Contains _ _ (by omega)) (evpos (decide_eq_true hm) (evpos (by omega) (evpos (by omega) h2))))
      · have st4 := st3 hm
        obtain ⟨n', h0, h1, h2⟩ := ih q (n + 1) (by omega) (by omega) (by omega) (by rw [Nat.pow_succ]; omega)
        have e : ¬ rd (Tr.heavyL t) (q : Int) = (v : Int) := fun e => hm (hiff.2 e)
        rw [Int.natCast_succ] at h1 h2
        refine ⟨n', h0, Ev_succ ?_, Ev_succ ?_⟩
        · simp only [spec_LightSteps.l0]
          have e2 : spec_l08Light.f (Tr.parentsL t) (Tr.heavyL t) (v : Int) = some true := by
            unfold spec_l08Light.f
            rw [hr, if_neg (by omega), if_pos (by omega), if_pos (by omega), if_pos (by omega), if_pos (by omega)]
            simp [e]
          rw [e2, hr, Tr.wrap_id (x := (n : Int) + 1) (by omega) (by omega)]
          clear e hr
          exact evpos (by omega) (evsome (evpos rfl (evpos (by omega) (evpos (by omega) h1))))
        · simp only [impl_LightSteps.l0]
          rw [hr, Tr.wrap_id (x := (n : Int) + 1) (by omega) (by omega)]
          clear e hr
          exact evpos (by omega) (Ev.bind (ev_Contains _ _ (by omega)) (evneg (by simpa using hm) (evpos (by omega) (evpos (by omega) h2))))
theorem ev_Light2 (d : List Int) (v : Int) : ∃ r : Int × Int, Ev (fun k => spec_LightSteps.f k d v) r ∧ Ev (fun k => impl_LightSteps.f k d v) r ∧ r.2 = Tr.codeT d [v] ∧ (r.2 = 0 → ∃ n : Nat, r.1 = (n : Int) ∧ 2 ^ n ≤ d.length) := by
  by_cases h : Tr.codeT d [v] = 0
  · obtain ⟨h0, h1, h2⟩ := Tr.codeT_one h
    obtain ⟨t, ht⟩ := Tr.Tree.of h0
    have hle := ht.le
    have hlen := ht.len
    obtain ⟨p, rfl⟩ : ∃ p : Nat, v = (p : Int) := ⟨v.toNat, by omega⟩
    obtain ⟨n, h3, h4, h5⟩ := ev_Light2_l0 ht (p + 1) p 0 (by omega) (by omega) (by omega) (by rw [Nat.pow_zero]; omega)
    refine ⟨((n : Int), 0), ?_, ?_, h.symm, fun _ => ⟨n, rfl, by omega⟩⟩
    · unfold spec_LightSteps.f
      exact Ev.bind (ev_l01Nodes d _ (by simp)) (evpos h (Ev.bind (ev_l01Parents ht) (Ev.bind (ev_l08Heavy ht) h4)))
    · unfold impl_LightSteps.f
      exact Ev.bind (ev_treeCode d _ (by simp)) (evpos h (Ev.bind (ev_heavyChildren ht) (Ev.bind (ev_parentsOf ht) h5)))
  · refine ⟨(0, Tr.codeT d [v]), ?_, ?_, rfl, fun e => absurd e h⟩
    · unfold spec_LightSteps.f
      exact Ev.bind (ev_l01Nodes d _ (by simp)) (evneg h (Ev.now _))
    · unfold impl_LightSteps.f
      exact Ev.bind (ev_treeCode d _ (by simp)) (evneg h (Ev.now _))
theorem ev_Interval2 (d : List Int) (v : Int) : ∃ r : Int × Int × Int, Ev (fun k => spec_IntervalOf.f k d v) r ∧ Ev (fun k => impl_IntervalOf.f k d v) r ∧ r.2.2 = Tr.codeT d [v] ∧ (r.2.2 = 0 → ∃ (t : Tr.F) (p : Nat), Tr.Tree d t ∧ v = (p : Int) ∧ p < t.size ∧ wrap64 (wrap64 (r.2.1 - r.1) + 1) = ((1 + (t.sub p).size : Nat) : Int)) := by
  by_cases h : Tr.codeT d [v] = 0
  · obtain ⟨h0, h1, h2⟩ := Tr.codeT_one h
    obtain ⟨t, ht⟩ := Tr.Tree.of h0
    have hle := ht.le
    have hlen := ht.len
    obtain ⟨p, rfl⟩ : ∃ p : Nat, v = (p : Int) := ⟨v.toNat, by omega⟩
    obtain ⟨n, hp⟩ := ht.node (v := p) (by omega)
    have hf := ht.fits (v := p) (by omega)
    refine ⟨((p : Int), wrap64 (((p + 1 + (t.sub p).size : Nat) : Int) - 1), 0), ?_, ?_, h.symm, fun _ => ⟨t, p, ht, rfl, by omega, ?_⟩⟩
    · unfold spec_IntervalOf.f
      refine Ev.bind (ev_l01Nodes d [(p : Int)] (by simp)) (evpos h (Ev.bind (ev_l01End (by omega) hp) (Ev.now _)))
    · unfold impl_IntervalOf.f
      refine Ev.bind (ev_treeCode d [(p : Int)] (by simp)) (evpos h (Ev.bind (ev_endOf (by omega) hp) (Ev.now _)))
    · show wrap64 (wrap64 (wrap64 (((p + 1 + (t.sub p).size : Nat) : Int) - 1) - (p : Int)) + 1) = ((1 + (t.sub p).size : Nat) : Int)
      rw [Tr.wrap_id (x := ((p + 1 + (t.sub p).size : Nat) : Int) - 1) (by omega) (by omega), Tr.wrap_id (x := ((p + 1 + (t.sub p).size : Nat) : Int) - 1 - (p : Int)) (by omega) (by omega), Tr.wrap_id (by omega) (by omega)]
      omega
  · refine ⟨(0, 0, Tr.codeT d [v]), ?_, ?_, rfl, fun e => absurd e h⟩
    · unfold spec_IntervalOf.f
      exact Ev.bind (ev_l01Nodes d [v] (by simp)) (evneg h (Ev.now _))
    · unfold impl_IntervalOf.f
      exact Ev.bind (ev_treeCode d [v] (by simp)) (evneg h (Ev.now _))
theorem ev_Anc2_l0 {d : List Int} {t : Tr.F} (h : Tr.Tree d t) : ∀ (m v : Nat), m ≤ 1000 → v < t.size →
    ∃ r : Int × Int, Ev (fun k => spec_AncestorOf.l0 k (v : Int) (m : Int) (Tr.parentsL t)) r ∧ Ev (fun k => impl_AncestorOf.l0 k (v : Int) (m : Int) (Tr.parentsL t)) r ∧ (r.2 = 0 → ∃ a : Nat, r.1 = (a : Int) ∧ a ≤ v ∧ v + 1 + (t.sub v).size ≤ a + 1 + (t.sub a).size) := by
  have hle := h.le
  have hlen := h.len
  have hpl : (Tr.parentsL t).length = t.size := Tr.each_len _ _
  intro m
  induction m with
  | zero =>
    intro v hm h1
    refine ⟨((v : Int), 0), Ev_succ ?_, Ev_succ ?_, fun _ => ⟨v, rfl, Nat.le_refl _, Nat.le_refl _⟩⟩
    · simp only [spec_AncestorOf.l0]
      exact evneg (by omega) (Ev.now _)
    · simp only [impl_AncestorOf.l0]
      exact evneg (by omega) (evneg (by omega) (Ev.now _))
  | succ m ih =>
    intro v hm h1
    have hr : rd (Tr.parentsL t) (v : Int) = t.par 0 (-1) v := Tr.each_rd h1
    have hp := h.par_lt (c := v) h1
    by_cases hn : t.par 0 (-1) v < 0
    · refine ⟨(0, 4), Ev_succ ?_, Ev_succ ?_, fun e => absurd e (by decide)⟩
      · simp only [spec_AncestorOf.l0]
        rw [hr]
        clear hr
        exact evpos (by omega) (evpos (by omega) (evpos (by omega) (evpos hn (Ev.now _))))
      · simp only [impl_AncestorOf.l0]
        rw [hr]
        clear hr
        refine evpos (by omega) (evpos (by omega) (evpos (by omega) (evpos (by omega) (Ev_succ ?_))))
        simp only [impl_AncestorOf.l0]
        rw [Tr.wrap_id (by omega) (by omega)]
        by_cases hm0 : ((m + 1 : Nat) : Int) - 1 > 0
        · exact evpos hm0 (evneg (by omega) (evpos hn (Ev.now _)))
        · exact evneg hm0 (evpos hn (Ev.now _))
    · obtain ⟨q, hq⟩ : ∃ q : Nat, t.par 0 (-1) v = (q : Int) := ⟨(t.par 0 (-1) v).toNat, by omega⟩
      have hz : 1 ≤ v := by
        rcases Nat.eq_zero_or_pos v with rfl | h
        · rw [h.par_zero] at hn; omega
        · exact h
      obtain ⟨i1, i2⟩ := Tr.par_in h hz h1 hq
      obtain ⟨r, h2, h3, h4⟩ := ih q (by omega) (by omega)
      rw [hq] at hr hn hp
      have em : ((m + 1 : Nat) : Int) - 1 = (m : Int) := by omega
      refine ⟨r, Ev_succ ?_, Ev_succ ?_, fun e => ?_⟩
      · simp only [spec_AncestorOf.l0]
        rw [hr, Tr.wrap_id (by omega) (by omega), em]
        clear hr
        exact evpos (by omega) (evpos (by omega) (evpos (by omega) (evneg hn h2)))
      · simp only [impl_AncestorOf.l0]
        rw [hr, Tr.wrap_id (by omega) (by omega), em]
        clear hr
        exact evpos (by omega) (evpos (by omega) (evpos (by omega) (evpos (by omega) h3)))
      · obtain ⟨a, e1, e2, e3⟩ := h4 e
        exact ⟨a, e1, by omega, by omega⟩
theorem ev_Anc2 (d : List Int) (v n : Int) : ∃ r : Int × Int, Ev (fun k => spec_AncestorOf.f k d v n) r ∧ Ev (fun k => impl_AncestorOf.f k d v n) r ∧ (r.2 = 0 → Ev (fun k => impl_IsBelow.f k d v r.1) (true, 0)) := by
  by_cases h : Tr.codeT d [v] = 0
  · obtain ⟨h0, h1, h2⟩ := Tr.codeT_one h
    obtain ⟨t, ht⟩ := Tr.Tree.of h0
    have hlen := ht.len
    have hle := ht.le
    by_cases hn : 0 ≤ n ∧ n ≤ 24
    · obtain ⟨p, rfl⟩ : ∃ p : Nat, v = (p : Int) := ⟨v.toNat, by omega⟩
      obtain ⟨r, h3, h4, h5⟩ := ev_Anc2_l0 ht n.toNat p (by omega) (by omega)
      rw [Int.toNat_of_nonneg hn.1] at h3 h4
      refine ⟨r, ?_, ?_, fun e => ?_⟩
      · unfold spec_AncestorOf.f
        refine Ev.bind (ev_l01Nodes d _ (by simp)) (evpos h ?_)
        rw [l01In_eq]
        refine evsome (Ev_succ ?_)
        simp only [spec_AncestorOf.j0]
        refine evneg (by simp; omega) (Ev_succ ?_)
        simp only [spec_AncestorOf.j1]
        exact evpos h (Ev.bind (ev_l01Parents ht) h3)
      · unfold impl_AncestorOf.f
        refine Ev.bind (ev_treeCode d _ (by simp)) (evpos h (evneg (by omega) (Ev_succ ?_)))
        simp only [impl_AncestorOf.j0]
        exact evneg (by simp; omega) (Ev.bind (ev_parentsOf ht) h4)
      · obtain ⟨a, e1, e2, e3⟩ := h5 e
        rw [e1]
        obtain ⟨b, hb⟩ := ht.node (v := a) (by omega)
        unfold impl_IsBelow.f impl_isBelow.f
        have hc : Tr.codeT d [(p : Int), (a : Int)] = 0 := by
          unfold Tr.codeT
          rw [if_pos ht.isT]
          simp only [Tr.nodesCode]
          rw [if_pos ⟨by omega, by omega⟩, if_pos ⟨by omega, by omega⟩]
        refine Ev.bind (ev_treeCode d _ (by simp)) (evpos hc (Ev.bind (a := true) ?_ (Ev.now _)))
        refine evpos (by omega) (Ev.bind (ev_endOf (by omega) hb) (evnow ?_))
        rw [decide_eq_true (by omega)]
    · refine ⟨(0, 2), ?_, ?_, fun e => absurd e (by decide)⟩
      · unfold spec_AncestorOf.f
        refine Ev.bind (ev_l01Nodes d _ (by simp)) (evpos h ?_)
        rw [l01In_eq]
        refine evsome (Ev_succ ?_)
        simp only [spec_AncestorOf.j0]
        refine evpos (by simp; omega) (Ev_succ ?_)
        simp only [spec_AncestorOf.j1]
        exact evneg (by omega) (Ev.now _)
      · unfold impl_AncestorOf.f
        refine Ev.bind (ev_treeCode d _ (by simp)) (evpos h ?_)
        by_cases hx : n < 0
        · refine evpos hx (Ev_succ ?_)
          simp only [impl_AncestorOf.j0]
          exact evpos trivial (Ev.now _)
        · refine evneg hx (Ev_succ ?_)
          simp only [impl_AncestorOf.j0]
          exact evpos (by simp; omega) (Ev.now _)
  · refine ⟨(0, Tr.codeT d [v]), ?_, ?_, fun e => absurd e h⟩
    · unfold spec_AncestorOf.f
      refine Ev.bind (ev_l01Nodes d _ (by simp)) (evneg h (Ev_succ ?_))
      simp only [spec_AncestorOf.j0]
      refine evneg (by simp) (Ev_succ ?_)
      simp only [spec_AncestorOf.j1]
      exact evneg h (Ev.now _)
    · unfold impl_AncestorOf.f
      exact Ev.bind (ev_treeCode d _ (by simp)) (evneg h (Ev.now _))
theorem chn_last {H : List Int} : ∀ {l : List Int}, Tr.chn H l → 1 ≤ l.length ∧ rd H (rd l ((l.length : Int) - 1)) = -1 := by
  intro l
  induction l with
  | nil => intro h; exact absurd h (by simp [Tr.chn])
  | cons x l ih =>
    intro h
    cases l with
    | nil => simp only [Tr.chn] at h; exact ⟨by simp, by simpa [rd] using h⟩
    | cons y r =>
      simp only [Tr.chn] at h
      have h2 := (ih h.2).2
      refine ⟨by simp, ?_⟩
      have e : rd (x :: y :: r) (((x :: y :: r).length : Int) - 1) = rd (y :: r) (((y :: r).length : Int) - 1) := by
        unfold rd
        rw [show ((((x :: y :: r).length : Int) - 1)).toNat = r.length + 1 by simp only [List.length_cons]; omega, show ((((y :: r).length : Int) - 1)).toNat = r.length by simp only [List.length_cons]; omega]
        simp
      rw [e]; exact h2
theorem chn_step {H : List Int} : ∀ {l : List Int}, Tr.chn H l → ∀ j : Nat, j + 1 < l.length → rd H (rd l (j : Int)) = rd l ((j + 1 : Nat) : Int) := by
  intro l
  induction l with
  | nil => intro h; exact absurd h (by simp [Tr.chn])
  | cons x l ih =>
    intro h j hj
    cases l with
    | nil => simp at hj
    | cons y r =>
      simp only [Tr.chn] at h
      cases j with
      | zero => simpa [rd] using h.1
      | succ j =>
        have := ih h.2 j (by simpa using hj)
        unfold rd at this ⊢
        simp only [Int.toNat_natCast] at this ⊢
        simpa using this
/-- Marks laid at these places. -/
def marks (m : List Bool) : List Int → List Bool
  | [] => m
  | x :: l => marks (m.set x.toNat true) l
theorem marks_app (m : List Bool) : ∀ (l : List Int) (m : List Bool) (l2 : List Int), marks m (l ++ l2) = marks (marks m l) l2 := by
  intro l
  induction l with
  | nil => intro m l2; rfl
  | cons x l ih => intro m l2; exact ih _ _
theorem marks_len : ∀ (l : List Int) (m : List Bool), (marks m l).length = m.length := by
  intro l
  induction l with
  | nil => intro m; rfl
  | cons x l ih => intro m; rw [marks, ih, List.length_set]
theorem marks_rd {s : Nat} : ∀ (l : List Int) (m : List Bool), m.length = s → (∀ x ∈ l, 0 ≤ x ∧ x < (s : Int)) → ∀ v : Int, 0 ≤ v → v < (s : Int) → rdOf false (marks m l) v = (rdOf false m v || decide (v ∈ l)) := by
  intro l
  induction l with
  | nil => intro m hm hl v h0 h1; simp [marks]
  | cons x l ih =>
    intro m hm hl v h0 h1
    have hx := hl x (by simp)
    rw [marks, ih (m.set x.toNat true) (by rw [List.length_set]; exact hm) (fun y hy => hl y (by simp [hy])) v h0 h1]
    unfold rdOf
    rw [List.getD_eq_getElem?_getD, List.getD_eq_getElem?_getD, List.getElem?_set]
    by_cases e : x = v
    · subst e
      rw [if_pos rfl, if_pos (by omega)]
      simp
    · have e2 : ¬ x.toNat = v.toNat := by omega
      have e3 : ¬ v = x := fun q => e q.symm
      rw [if_neg e2]
      simp [e3]
theorem rd_L2_at {P : List (List Int)} {pre rest : List (List Int)} {row : List Int} (h : P = pre ++ row :: rest) : rd_L2 P (pre.length : Int) = row := by
  unfold rd_L2
  rw [h, Int.toNat_natCast, List.getD_eq_getElem?_getD, List.getElem?_append_right (Nat.le_refl _), Nat.sub_self]
  rfl
theorem ev_hp_l3 (m : List Bool) (hm : m.length ≤ 1000) (h : ∀ v : Nat, v < m.length → rdOf false m (v : Int) = true) : ∀ (n i : Nat), i + n = m.length → Ev (fun k => laws_FnHeavyPaths.l3 k m (i : Int)) true := by
  intro n
  induction n with
  | zero => intro i hi; refine Ev_succ ?_; simp only [laws_FnHeavyPaths.l3]; exact evneg (by omega) (Ev.now _)
  | succ n ih =>
    intro i hi
    refine Ev_succ ?_
    simp only [laws_FnHeavyPaths.l3]
    rw [Tr.wrap_succ (by omega)]
    exact evpos (by omega) (evpos (by omega) (evpos (h i (by omega)) (ih (i + 1) (by omega))))
theorem ev_hp_l2 {P : List (List Int)} {H row done : List Int} {s i : Nat} (hs : s ≤ 24) (hP : P.length ≤ 1000) (hi : i < P.length) (hrow : rd_L2 P (i : Int) = row) (hH : H.length = s) (hc : Tr.chn H row) (hrl : row.length ≤ 1000) (hin : ∀ x ∈ row, 0 ≤ x ∧ x < (s : Int)) (hdn : ∀ x ∈ done, 0 ≤ x ∧ x < (s : Int)) (hnd : (done ++ row).Nodup)
    (hR : Ev (fun k => laws_FnHeavyPaths.l1 k P H (marks (List.replicate s false) (done ++ row)) ((i + 1 : Nat) : Int)) true) : ∀ (b a : List Int), row = a ++ b → Ev (fun k => laws_FnHeavyPaths.l2 k P H (marks (List.replicate s false) (done ++ a)) (i : Int) (a.length : Int)) true := by
  intro b
  induction b with
  | nil =>
    intro a ha
    rw [List.append_nil] at ha
    subst ha
    refine Ev_succ ?_
    simp only [laws_FnHeavyPaths.l2, hrow]
    rw [Tr.wrap_succ (by omega)]
    exact evpos (by omega) (evpos (by omega) (evneg (by omega) hR))
  | cons x b ih =>
    intro a ha
    have hx : rd row (a.length : Int) = x := by rw [ha, Tr.rd_app0]; exact Tr.rd_cons0 _ _
    have hxi := hin x (by rw [ha]; simp)
    have hl : row.length = a.length + (b.length + 1) := by rw [ha]; simp
    have hml : (marks (List.replicate s false) (done ++ a)).length = s := by rw [marks_len]; simp
    have hnm : rdOf false (marks (List.replicate s false) (done ++ a)) x = false := by
      rw [marks_rd (s := s) _ _ (by simp) (fun y hy => by
        rcases List.mem_append.mp hy with hy | hy
        · exact hdn y hy
        · exact hin y (by rw [ha]; simp [hy])) x hxi.1 hxi.2]
      have h1 : rdOf false (List.replicate s false) x = false := by
        unfold rdOf
        rw [List.getD_eq_getElem?_getD]
        cases hq : (List.replicate s false)[x.toNat]? with
        | none => rfl
        | some y => have := List.mem_of_getElem? hq; rw [List.mem_replicate] at this; simpa using this.2
      have h2 : ¬ x ∈ done ++ a := by
        intro hxm
        rw [ha, ← List.append_assoc] at hnd
        exact (List.nodup_append.mp hnd).2.2 x hxm x (by simp) rfl
      rw [h1, decide_eq_false h2]; rfl
    have hnext : Ev (fun k => laws_FnHeavyPaths.j13 k P H (marks (List.replicate s false) (done ++ a)) (i : Int) (a.length : Int) false) true := by
      have h3 := ih (a ++ [x]) (by rw [ha]; simp)
      refine Ev_succ ?_
      simp only [laws_FnHeavyPaths.j13, hrow, hx]
      rw [Tr.wrap_succ (by omega)]
      refine evneg (by simp) (evpos (by omega) (evpos (by omega) (evpos (by omega) (evpos (by omega) (evpos (by omega) (evpos (by omega) ?_))))))
      rw [← List.append_assoc, marks_app [] (done ++ a) _ [x], List.length_append, List.length_singleton] at h3
      exact h3
    refine Ev_succ ?_
    simp only [laws_FnHeavyPaths.l2, hrow, hx]
    refine evpos (by omega) (evpos (by omega) (evpos (by omega) (evpos (by omega) (evpos (by omega) (evpos (by omega) (evneg (by rw [hnm]; simp) ?_))))))
    by_cases h0 : (a.length : Int) > 0
    · obtain ⟨j, hj⟩ : ∃ j, a.length = j + 1 := ⟨a.length - 1, by omega⟩
      have hst := chn_step hc j (by omega)
      have hpi := hin (rd row (j : Int)) (Tr.rd_mem (by omega) (by omega))
      have ej : wrap64 ((a.length : Int) - 1) = (j : Int) := by rw [Tr.wrap_id (by omega) (by omega)]; omega
      rw [ej]
      refine evpos h0 (evpos (by omega) (evpos (by omega) (evpos (by omega) (evpos (by omega) ?_))))
      rw [hst, ← hj, hx]
      have : (x != x) = false := by simp
      rw [this]
      exact hnext
    · exact evneg h0 hnext
theorem ev_hp_l1 {P : List (List Int)} {H : List Int} {s : Nat} (hs : s ≤ 24) (hP : P.length ≤ 1000) (hH : H.length = s) (hall : ∀ row ∈ P, Tr.chn H row ∧ (∀ x ∈ row, 0 ≤ x ∧ x < (s : Int)) ∧ row.length ≤ 1000) (hnd : P.flatten.Nodup) (hone : ∀ v : Nat, v < s → (v : Int) ∈ P.flatten) : ∀ (rest pre : List (List Int)), P = pre ++ rest → Ev (fun k => laws_FnHeavyPaths.l1 k P H (marks (List.replicate s false) pre.flatten) (pre.length : Int)) true := by
  have hfl : ∀ x ∈ P.flatten, 0 ≤ x ∧ x < (s : Int) := fun x hx => by
    obtain ⟨row, h1, h2⟩ := List.mem_flatten.mp hx
    exact (hall row h1).2.1 x h2
  intro rest
  induction rest with
  | nil =>
    intro pre hpre
    rw [List.append_nil] at hpre
    subst hpre
    have h3 := ev_hp_l3 (marks (List.replicate s false) P.flatten) (by rw [marks_len]; simp; omega) (fun v hv => by
      rw [marks_len, List.length_replicate] at hv
      rw [marks_rd (s := s) _ _ (by simp) hfl (v : Int) (by omega) (by omega), decide_eq_true (hone v hv)]
      simp) s 0 (by rw [marks_len]; simp)
    refine Ev_succ ?_
    simp only [laws_FnHeavyPaths.l1]
    exact evneg (by omega) h3
  | cons row rest ih =>
    intro pre hpre
    have hrow := rd_L2_at hpre
    have hm : row ∈ P := by rw [hpre]; simp
    obtain ⟨hc, hin, hrl⟩ := hall row hm
    have hl : P.length = pre.length + (rest.length + 1) := by rw [hpre]; simp
    have hfe : P.flatten = pre.flatten ++ row ++ rest.flatten := by rw [hpre]; simp
    obtain ⟨c1, c2⟩ := chn_last hc
    have hlast := hin (rd row ((row.length : Int) - 1)) (Tr.rd_mem (by omega) (by omega))
    have hR := ih (pre ++ [row]) (by rw [hpre]; simp)
    have e1 : (pre ++ [row]).flatten = pre.flatten ++ row := by simp
    rw [e1, List.length_append, List.length_singleton] at hR
    have h2 := ev_hp_l2 (P := P) (H := H) (row := row) (done := pre.flatten) (s := s) (i := pre.length) hs hP (by omega) hrow hH hc hrl hin (fun x hx => hfl x (by rw [hfe]; simp [hx])) (by rw [hfe] at hnd; exact (List.nodup_append.mp hnd).1) hR row [] (by simp)
    rw [List.append_nil] at h2
    refine Ev_succ ?_
    simp only [laws_FnHeavyPaths.l1, hrow]
    have e2 : wrap64 ((row.length : Int) - 1) = (row.length : Int) - 1 := Tr.wrap_id (by omega) (by omega)
    rw [e2]
    refine evpos (by omega) (evpos (by omega) (evneg (by omega) (evpos (by omega) (evpos (by omega) (evpos (by omega) (evpos (by omega) ?_))))))
    rw [c2]
    refine Ev_succ ?_
    simp only [laws_FnHeavyPaths.j11]
    exact evneg (by decide) h2
theorem ev_hp_j9 (d : List Int) : ∃ (P : List (List Int)) (H : List Int) (c : Int), Ev (fun k => spec_HeavyPaths.f k d) (P, c) ∧ Ev (fun k => impl_HeavyPaths.f k d) (P, c) ∧ Ev (fun k => spec_HeavyChildren.f k d) (H, c) ∧ Ev (fun k => impl_HeavyChildren.f k d) (H, c) ∧ P.length ≤ 1000 ∧ (∀ x ∈ P, x.length ≤ 1000) ∧ H.length ≤ 1000 ∧ Ev (fun k => laws_FnHeavyPaths.j9 k P c H c d) true := by
  rcases Tr.isT_cases d with h | ⟨t, h⟩
  · obtain ⟨h1, h2, h3, h4⟩ := ev_hp_none h
    refine ⟨[], [], 1, h1, h2, h3, h4, by simp, by simp, by simp, Ev_succ ?_⟩
    simp only [laws_FnHeavyPaths.j9]
    exact evneg (by omega) (evpos (by simp) (evnow (by simp)))
  · obtain ⟨h1, h2, h3, h4⟩ := ev_hp_tree h
    have hle := h.le
    have hlen := h.len
    have hHl : (Tr.heavyL t).length = t.size := Tr.each_len _ _
    have hPl := Tr.hpaths_len t t.size 0 []
    rw [List.length_nil] at hPl
    have hrows := Tr.hpaths_rows t t.size 0 [] (by simp)
    have hchn := Tr.hpaths_all h t.size 0 [] (by omega) (by simp)
    have hflat := Tr.hpaths_flat (t := t) t.size 0 []
    rw [List.flatten_nil, List.nil_append] at hflat
    have hcount := Tr.flatP_one h
    rw [← hflat] at hcount
    generalize Tr.hpaths t t.size 0 [] = P at *
    have hfl : ∀ x ∈ P.flatten, 0 ≤ x ∧ x < (t.size : Int) := fun x hx => by
      obtain ⟨row, q1, q2⟩ := List.mem_flatten.mp hx
      exact (hchn row q1).2 x q2
    refine ⟨P, Tr.heavyL t, 0, h1, h2, h3, h4, by omega, fun x hx => by have := hrows x hx; omega, by omega, Ev_succ ?_⟩
    simp only [laws_FnHeavyPaths.j9]
    refine evpos trivial (evpos (by omega) (evpos (by omega) ?_))
    rw [show ((d.length : Int)).toNat = t.size by omega]
    have := ev_hp_l1 (P := P) (H := Tr.heavyL t) (s := t.size) (by omega) (by omega) hHl (fun row hr => ⟨(hchn row hr).1, (hchn row hr).2, by have := hrows row hr; omega⟩) (List.nodup_iff_count.mpr fun x => by
      by_cases hx : x ∈ P.flatten
      · have q := hfl x hx
        have := hcount x.toNat (by omega)
        rw [Int.toNat_of_nonneg q.1] at this
        omega
      · rw [List.count_eq_zero_of_not_mem hx]; omega) (fun v hv => by
      have := hcount v hv
      exact List.count_pos_iff.mp (by omega)) P [] (by simp)
    exact this
theorem ev_hp_l0 {P : List (List Int)} {H e d : List Int} {c1 c2 : Int} {v low high : Int} {n : Nat} {t : Tr.F} {p : Nat} (ht : Tr.Tree e t) (hv : v = (p : Int)) (hp : p < t.size) (hint : wrap64 (wrap64 (high - low) + 1) = ((1 + (t.sub p).size : Nat) : Int)) (hn : 2 ^ n ≤ e.length) (hR : Ev (fun k => laws_FnHeavyPaths.j9 k P c1 H c2 d) true) : ∀ (m i : Nat), i + m = n → Ev (fun k => laws_FnHeavyPaths.l0 k P c1 H c2 v (n : Int) low high 0 (2 ^ i : Nat) (i : Int) d e) true := by
  have hle := ht.le
  have hlen := ht.len
  have hn2 : n < 2 ^ n := Nat.lt_two_pow_self
  intro m
  induction m with
  | zero =>
    intro i hi
    obtain rfl : i = n := by omega
    have hS : Ev (fun k => impl_SizesOf.f k e) (Tr.sizesL t, 0) := by
      unfold impl_SizesOf.f
      exact Ev.bind (ev_IsTree e) (evpos ht.isT (Ev.bind (ev_sizesOf ht) (Ev.now _)))
    have hsl : (Tr.sizesL t).length = t.size := Tr.each_len _ _
    have hrd : rd (Tr.sizesL t) v = ((1 + (t.sub p).size : Nat) : Int) := by rw [hv]; exact Tr.each_rd hp
    refine Ev_succ ?_
    simp only [laws_FnHeavyPaths.l0]
    refine evneg (by omega) (Ev.bind hS (evpos rfl (evneg (by generalize 2 ^ i = a at hn; omega) (evpos trivial (evpos (by omega) (evpos (by show v < ((Tr.sizesL t).length : Int); omega) ?_))))))
    rw [hint, hrd]
    refine Ev_succ ?_
    simp only [laws_FnHeavyPaths.j8]
    exact evneg (by simp) hR
  | succ m ih =>
    intro i hi
    have h2 : 2 ^ i ≤ 2 ^ n := Nat.pow_le_pow_right (by omega) (by omega)
    have h3 := ih (i + 1) (by omega)
    rw [Nat.pow_succ] at h3
    generalize 2 ^ i = a at h2 h3 ⊢
    generalize 2 ^ n = b at h2 hn hn2
    rw [Int.natCast_mul] at h3
    refine Ev_succ ?_
    simp only [laws_FnHeavyPaths.l0]
    rw [Tr.wrap_succ (by omega), Tr.wrap_id (x := (a : Int) * 2) (by omega) (by omega)]
    exact evpos (by omega) h3
theorem pure_FnHeavyPaths (C : List Int) (hl : C.length ≤ maxLen) (hw : ∀ x ∈ C, (Lit.int .u8 x).wf = true) : ∃ k, laws_FnHeavyPaths.f k C = some true := by
  refine Ev.rounds ?_
  unfold laws_FnHeavyPaths.f laws_big.f
  by_cases hb : (C.length : Int) > 4096
  · exact evsome (evpos (by simpa using hb) (Ev.now _))
  have hC : Cod C := ⟨by omega, fun x hx => by
      have := hw x hx
      have h3 : IntKind.u8.min ≤ x ∧ x ≤ IntKind.u8.max := by simpa [Lit.wf] using this
      exact h3⟩
  obtain ⟨d, hd, D1⟩ := ev_DrawHeavyPaths hC
  obtain ⟨P, H, c, p1, p2, p3, p4, p5, p6, p7, p8⟩ := ev_hp_j9 d
  obtain ⟨⟨e, v⟩, he, D2⟩ := ev_DrawLightSteps hC
  obtain ⟨L, l1, l2, l3, l4⟩ := ev_Light2 e v
  obtain ⟨I, i1, i2, i3, i4⟩ := ev_Interval2 e v
  obtain ⟨⟨w, x, n⟩, hw2, D3⟩ := ev_DrawAncestorOf hC
  obtain ⟨A, a1, a2, a3⟩ := ev_Anc2 w x n
  refine evsome (evneg (by simpa using hb) (Ev.bind D1 (Ev.bind p2 (Ev.bind p1 (evpos rfl (Ev.bind (ev_rows9 P (by omega) (fun x hx => by have := p6 x hx; omega)) ?_))))))
  refine Ev_succ ?_
  simp only [laws_FnHeavyPaths.j0]
  refine evneg (by simp) (Ev.bind p4 (Ev.bind p3 (evpos rfl (Ev.bind (ev_likeInts H (by omega)) ?_))))
  refine Ev_succ ?_
  simp only [laws_FnHeavyPaths.j1]
  refine evneg (by simp) (Ev.bind D2 (Ev.bind l2 (Ev.bind l1 (evpos rfl ?_))))
  refine Ev_succ ?_
  simp only [laws_FnHeavyPaths.j2]
  refine evneg (by simp) (Ev.bind i2 (Ev.bind i1 (evpos rfl (evpos rfl ?_))))
  refine Ev_succ ?_
  simp only [laws_FnHeavyPaths.j3]
  refine evneg (by simp) (Ev.bind D3 (Ev.bind a2 (Ev.bind a1 (evpos rfl ?_))))
  refine Ev_succ ?_
  simp only [laws_FnHeavyPaths.j4]
  have hrest : Ev (fun k => laws_FnHeavyPaths.j6 k P c H c v L.1 L.2 I.1 I.2.1 I.2.2 d e) true := by
    refine Ev_succ ?_
    simp only [laws_FnHeavyPaths.j6]
    by_cases h0 : L.2 = 0
    · obtain ⟨n, e1, e2⟩ := l4 h0
      have h1 : I.2.2 = 0 := by rw [i3, ← l3]; exact h0
      obtain ⟨t, p, t1, t2, t3, t4⟩ := i4 h1
      have := ev_hp_l0 (P := P) (H := H) (d := d) (c1 := c) (c2 := c) (low := I.1) (high := I.2.1) t1 t2 t3 t4 e2 p8 n 0 (by omega)
      rw [e1, h1]
      exact evpos h0 this
    · exact evneg h0 p8
  refine evneg (by simp) ?_
  by_cases h0 : A.2 = 0
  · refine evpos h0 (Ev.bind (a3 h0) (evpos rfl (Ev_succ ?_)))
    simp only [laws_FnHeavyPaths.j5]
    exact evneg (by simp) hrest
  · exact evneg h0 hrest
end Go.Proofs.Ytlppkilencpmeaa.QFnHeavyPaths
