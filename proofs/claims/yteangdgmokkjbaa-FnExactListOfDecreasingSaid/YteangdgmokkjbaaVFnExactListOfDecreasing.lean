import Derived.Test.YteangdgmokkjbaaQFnExactListOfDecreasingx
import Derived.Test.YteangdgmokkjbaaTr
import Derived.Test.YteangdgmokkjbaaNd
import Derived.Test.YteangdgmokkjbaaBn
namespace Go.Proofs.Yteangdgmokkjbaa.QFnExactListOfDecreasing
open Go.RowKit Go.Proofs.YteangdgmokkjbaaW.PrintWords Go.Proofs.YteangdgmokkjbaaW.PrintLast Go.Proofs.YteangdgmokkjbaaW.PrintMore Go.Proofs.Yteangdgmokkjbaa
set_option linter.unusedVariables false
set_option linter.unusedSimpArgs false
theorem Ev_succ {α : Type} {g : Nat → Option α} {r : α} (h : Ev (fun k => g (k + 1)) r) : Ev g r := Ev.step (fun _ => rfl) h
theorem evpos {α : Type} {c : Prop} [Decidable c] {f g : Nat → Option α} {r : α} (h : c) (k : Ev f r) : Ev (fun n => if c then f n else g n) r := by
  simp only [if_pos h]; exact k
theorem evneg {α : Type} {c : Prop} [Decidable c] {f g : Nat → Option α} {r : α} (h : ¬ c) (k : Ev g r) : Ev (fun n => if c then f n else g n) r := by
  simp only [if_neg h]; exact k
theorem evsome {α β : Type} {a : α} {f : Nat → α → Option β} {r : β} (k : Ev (fun n => f n a) r) : Ev (fun n => (some a).bind (f n)) r := k
theorem evnow {α : Type} {a r : α} (h : a = r) : Ev (fun _ => some a) r := by subst h; exact Ev.now _
theorem ev_eq_l0 (xs ys : List Int) (hl : xs.length = ys.length) (hb : xs.length ≤ 1152921504606846976) : ∀ (n i : Nat), i + n = xs.length →
    Ev (fun k => laws_eqInt64S.l0 k xs ys (i : Nat)) (decide (xs.drop i = ys.drop i)) := by
  intro n
  induction n with
  | zero =>
    intro i hi
    refine Ev_succ ?_
    simp only [laws_eqInt64S.l0]
    refine evneg (by omega) (evnow ?_)
    rw [List.drop_of_length_le (by omega), List.drop_of_length_le (by omega)]; rfl
  | succ n ih =>
    intro i hi
    refine Ev_succ ?_
    simp only [laws_eqInt64S.l0]
    refine evpos (by omega) (evpos (by omega) (evpos (by omega) ?_))
    rw [Tr.rd_getElem (by omega : i < xs.length), Tr.rd_getElem (by omega : i < ys.length)]
    have e : wrap64 ((i : Int) + 1) = ((i + 1 : Nat) : Int) := by rw [Tr.wrap_id (by omega) (by omega)]; omega
    rw [e]
    have e3 : (xs.drop i = ys.drop i) = (xs[i] = ys[i] ∧ xs.drop (i + 1) = ys.drop (i + 1)) := by
      rw [List.drop_eq_getElem_cons (by omega : i < xs.length), List.drop_eq_getElem_cons (by omega : i < ys.length)]
      exact List.cons.injEq _ _ _ _
    have e4 : decide (xs.drop i = ys.drop i) = decide (xs[i] = ys[i] ∧ xs.drop (i + 1) = ys.drop (i + 1)) := by simp only [e3]
    rw [e4]
    by_cases h : xs[i] = ys[i]
    · refine evpos h ?_
      have := ih (i + 1) (by omega)
      rw [show decide (xs[i] = ys[i] ∧ xs.drop (i + 1) = ys.drop (i + 1)) = decide (xs.drop (i + 1) = ys.drop (i + 1)) by simp only [h, true_and]]
      exact this
    · refine evneg h (evnow ?_)
      simp only [h, false_and, decide_false]
theorem ev_eqInt64S (xs ys : List Int) (hb : xs.length ≤ 1152921504606846976) (hc : ys.length ≤ 1152921504606846976) : Ev (fun k => laws_eqInt64S.f k xs ys) (decide (xs = ys)) := by
  unfold laws_eqInt64S.f
  by_cases h : xs.length = ys.length
  · refine evpos (by omega) ?_
    have := ev_eq_l0 xs ys h hb xs.length 0 (by omega)
    simpa using this
  · refine evneg (by omega) (evnow ?_)
    rw [eq_comm, decide_eq_false_iff_not]
    intro e; exact h (by rw [e])
/-- The numbers m, m + 1, .. -/
def up (m : Int) : Nat → List Int
  | 0 => []
  | n + 1 => m :: up (m + 1) n
theorem up_len (n : Nat) : ∀ m, (up m n).length = n := by
  induction n with
  | zero => intro m; rfl
  | succ n ih => intro m; simp [up, ih]
theorem up_get (n : Nat) : ∀ (m : Int) (i : Nat) (h : i < (up m n).length), (up m n)[i] = m + i := by
  induction n with
  | zero => intro m i h; simp [up] at h
  | succ n ih =>
    intro m i h
    cases i with
    | zero => simp [up]
    | succ i => simp only [up, List.getElem_cons_succ, ih]; omega
theorem ev_mark_l0 (a : Int) (N : Nat) (h0 : 0 ≤ a) (h1 : a + N ≤ 1152921504606846976) : ∀ (n i : Nat) (xs : List Int), i + n = N → xs.length = N → xs.take i = (up a N).take i →
    Ev (fun k => laws_markInt64S.l0 k xs (a + i) (i : Nat)) (a + N, up a N) := by
  intro n
  induction n with
  | zero =>
    intro i xs hi hy ht
    refine Ev_succ ?_
    simp only [laws_markInt64S.l0]
    refine evneg (by omega) (evnow ?_)
    rw [List.take_of_length_le (by omega), List.take_of_length_le (by rw [up_len]; omega)] at ht
    rw [ht]
    have : i = N := by omega
    subst this; rfl
  | succ n ih =>
    intro i xs hi hy ht
    refine Ev_succ ?_
    simp only [laws_markInt64S.l0]
    refine evpos (by omega) (evpos (by omega) ?_)
    have e : wrap64 ((i : Int) + 1) = ((i + 1 : Nat) : Int) := by rw [Tr.wrap_id (by omega) (by omega)]; omega
    have e2 : wrap64 (a + (i : Int) + 1) = a + ((i + 1 : Nat) : Int) := by rw [Tr.wrap_id (by omega) (by omega)]; omega
    rw [e, e2, Int.toNat_natCast]
    refine ih (i + 1) _ (by omega) (by simp [hy]) ?_
    rw [List.take_succ_eq_append_getElem (by simp; omega), List.take_succ_eq_append_getElem (by rw [up_len]; omega), up_get]
    simp [List.take_set_of_le, ht]
theorem ev_markInt64S (xs : List Int) (a : Int) (h0 : 0 ≤ a) (h1 : a + xs.length ≤ 1152921504606846976) : Ev (fun k => laws_markInt64S.f k xs a) (a + xs.length, up a xs.length) := by
  unfold laws_markInt64S.f
  have := ev_mark_l0 a xs.length h0 h1 xs.length 0 xs (by omega) rfl (by simp)
  simpa using this
theorem ev_held_l0 (a : Int) (N : Nat) (h0 : 0 ≤ a) (h1 : a + N ≤ 1152921504606846976) : ∀ (n i : Nat), i + n = N →
    Ev (fun k => laws_heldInt64S.l0 k (up a N) (a + i) (i : Nat)) (a + N) := by
  intro n
  induction n with
  | zero =>
    intro i hi
    refine Ev_succ ?_
    simp only [laws_heldInt64S.l0, up_len]
    refine evneg (by omega) (evnow ?_)
    omega
  | succ n ih =>
    intro i hi
    refine Ev_succ ?_
    simp only [laws_heldInt64S.l0, up_len]
    have e : wrap64 ((i : Int) + 1) = ((i + 1 : Nat) : Int) := by rw [Tr.wrap_id (by omega) (by omega)]; omega
    have e2 : wrap64 (a + (i : Int) + 1) = a + ((i + 1 : Nat) : Int) := by rw [Tr.wrap_id (by omega) (by omega)]; omega
    have e3 : rd (up a N) (i : Int) = a + i := by rw [Tr.rd_getElem (by rw [up_len]; omega), up_get]
    refine evpos (by omega) (evpos (by omega) (evpos e3 ?_))
    rw [e, e2]
    exact ih (i + 1) (by omega)
theorem ev_heldInt64S (N : Nat) (a : Int) (h0 : 0 ≤ a) (h1 : a + N ≤ 1152921504606846976) : Ev (fun k => laws_heldInt64S.f k (up a N) a) (a + N) := by
  unfold laws_heldInt64S.f
  have := ev_held_l0 a N h0 h1 N 0 (by omega)
  simpa using this
theorem deg_range {d : List Int} {t : Tr.F} (h : Tr.Tree d t) {v : Nat} (hv : v < t.size) : 0 ≤ rd d (v : Int) ∧ rd d (v : Int) ≤ 24 := by
  have h1 := h.deg hv
  have h2 := h.fits hv
  have h3 := Tr.F.len_le (t.sub v)
  have h4 := h.few
  omega
def takeOutL (d : List Int) (t : Tr.F) (v : Nat) : List Int := (d.take v ++ d.drop (v + 1)).set (t.par 0 (-1) v).toNat (rd d (t.par 0 (-1) v) + rd d (v : Int) - 1)
theorem rd_take {d : List Int} {v p : Nat} (h : p < v) (hv : v ≤ d.length) : rd (d.take v) (p : Int) = rd d (p : Int) := by
  have e : rd d (p : Int) = rd (d.take v ++ d.drop v) (p : Int) := by rw [List.take_append_drop]
  rw [e, Tr.rd_left _ _ _ (by omega) (by simp; omega)]
def putAt (t : Tr.F) (p : Nat) (i : Int) : Int := if i < ((t.sub p).len : Int) then rd ((t.sub p).roots (p + 1)) i else ((p + 1 + (t.sub p).size : Nat) : Int)
theorem putAt_range {d : List Int} {t : Tr.F} (h : Tr.Tree d t) {p : Nat} (hp : p < t.size) {i : Int} (h0 : 0 ≤ i) : ∃ a : Nat, putAt t p i = (a : Int) ∧ p + 1 ≤ a ∧ a ≤ t.size := by
  have hf := h.fits hp
  unfold putAt
  by_cases hi : i < ((t.sub p).len : Int)
  · rw [if_pos hi]
    have hl := Tr.F.roots_len (t.sub p) (p + 1)
    have hm := Tr.rd_mem (l := (t.sub p).roots (p + 1)) h0 (by omega)
    have hr := Tr.F.roots_range _ _ _ hm
    obtain ⟨a, ha⟩ := Int.eq_ofNat_of_zero_le (show 0 ≤ rd ((t.sub p).roots (p + 1)) i by omega)
    exact ⟨a, ha, by omega, by omega⟩
  · rw [if_neg hi]
    exact ⟨_, rfl, by omega, by omega⟩
def putInL (d : List Int) (p a : Nat) (k : Int) : List Int := (d.set p (rd d (p : Int) + 1 - k)).take a ++ [k] ++ (d.set p (rd d (p : Int) + 1 - k)).drop a
theorem putInL_eq {d : List Int} {p a : Nat} (k : Int) (hp : p < a) (ha : a ≤ d.length) : (d.take a ++ [k] ++ d.drop a).set p (rd d (p : Int) + 1 - k) = putInL d p a k := by
  unfold putInL
  rw [List.take_set, List.drop_set_of_lt (by omega), List.append_assoc, List.set_append_left _ _ (by simp; omega), List.append_assoc]
theorem putInL_len {d : List Int} {p a : Nat} {k : Int} (ha : a ≤ d.length) : (putInL d p a k).length = d.length + 1 := by
  unfold putInL; simp; omega
theorem ev_endBinary_l0 : ∀ (L : List UInt8) (n : Nat), L.length + n ≤ 1000000000 → Ev (fun k => impl_endBinary.l0 k (Tr.B L) (n : Int)) (match Tr.en L n with | some R => (Tr.B R, true) | none => ((⟨#[]⟩ : ByteArray), false)) := by
  intro L
  induction L with
  | nil =>
    intro n hn
    refine Ev_succ ?_
    simp only [impl_endBinary.l0]
    cases n with
    | zero => rw [Tr.en_zero]; exact evneg (by omega) (Ev.now _)
    | succ n =>
      refine evpos (by omega) (evpos (Tr.B_toList _) ?_)
      refine Ev_succ ?_
      simp only [impl_endBinary.j1]
      exact evpos trivial (Ev.now _)
  | cons x L ih =>
    intro n hn
    simp only [List.length_cons] at hn
    refine Ev_succ ?_
    simp only [impl_endBinary.l0]
    cases n with
    | zero => rw [Tr.en_zero]; exact evneg (by omega) (Ev.now _)
    | succ n =>
      have hb : bt (Tr.B (x :: L)) 0 = (x.toNat : Int) := Tr.B_bt (x :: L) 0 (by simp)
      have hsz : ((Tr.B (x :: L)).size : Int) = (L.length : Int) + 1 := by rw [Tr.B_size]; simp
      have hex : (Tr.B (x :: L)).extract 1 (Tr.B (x :: L)).size = Tr.B L := by rw [Tr.B_extract, Tr.B_size, List.take_length]; rfl
      refine evpos (by omega) (evneg (by rw [Tr.B_toList]; simp) (evpos (by omega) ?_))
      rw [Tr.en]
      by_cases h0 : x = 48
      · rw [if_pos h0]
        refine evpos (by rw [hb]; exact (Tr.u8_48 x).mpr h0) ?_
        refine Ev_succ ?_
        simp only [impl_endBinary.j1]
        refine evneg (by simp) (evpos (by omega) (evneg (by rw [hb, h0]; decide) (evpos (by omega) ?_)))
        rw [hex, Tr.wrap_id (x := ((n + 1 : Nat) : Int) - 1) (by omega) (by omega), show ((n + 1 : Nat) : Int) - 1 = (n : Int) by omega]
        exact ih n (by omega)
      · rw [if_neg h0]
        have hb0 : ¬ bt (Tr.B (x :: L)) 0 = 48 := by rw [hb]; exact fun h => h0 ((Tr.u8_48 x).mp h)
        refine evneg hb0 ?_
        by_cases h1 : x = 49
        · rw [if_pos h1]
          have hb1 : bt (Tr.B (x :: L)) 0 = 49 := by rw [hb]; exact (Tr.u8_49 x).mpr h1
          refine Ev_succ ?_
          simp only [impl_endBinary.j1]
          refine evneg (by rw [hb1]; decide) (evpos (by omega) (evpos hb1 (evpos (by omega) ?_)))
          rw [hex, Tr.wrap_id (x := ((n + 1 : Nat) : Int) + 1) (by omega) (by omega), show ((n + 1 : Nat) : Int) + 1 = ((n + 2 : Nat) : Int) by omega]
          exact ih (n + 2) (by omega)
        · rw [if_neg h1]
          have hb1 : ¬ bt (Tr.B (x :: L)) 0 = 49 := by rw [hb]; exact fun h => h1 ((Tr.u8_49 x).mp h)
          refine Ev_succ ?_
          simp only [impl_endBinary.j1]
          exact evpos (bne_iff_ne.mpr hb1) (Ev.now _)
theorem ev_endBinary (L : List UInt8) (h : L.length ≤ 1000000) : Ev (fun k => impl_endBinary.f k (Tr.B L)) (match Tr.en L 1 with | some R => (Tr.B R, true) | none => ((⟨#[]⟩ : ByteArray), false)) := by
  unfold impl_endBinary.f
  exact ev_endBinary_l0 L 1 (by omega)
theorem ev_IsBinary (L : List UInt8) : Ev (fun k => impl_IsBinary.f k (Tr.B L)) (decide (L.length ≤ 47 ∧ Tr.en L 1 = some [])) := by
  unfold impl_IsBinary.f
  by_cases h : L.length ≤ 47
  · refine evneg (by rw [Tr.B_size]; omega) (Ev.bind (ev_endBinary L (by omega)) ?_)
    cases he : Tr.en L 1 with
    | none => exact evneg (by simp) (evnow (by simp))
    | some R =>
      refine evpos rfl (evnow ?_)
      rw [Tr.B_toList]
      by_cases hR : R = []
      · simp [hR, h]
      · simp [hR]
  · refine evpos (by rw [Tr.B_size]; omega) (evnow ?_)
    simp [h]
theorem ev_impl_sides (l r : Tr.F) (h : 2 * (l.size + r.size) ≤ 1000) : Ev (fun k => impl_sides.f k (Tr.B (Tr.tx (Tr.F.cons l r)))) (Tr.B (Tr.tx l), Tr.B (Tr.tx r)) := by
  unfold impl_sides.f
  have hl := Tr.tx_length l
  have hr := Tr.tx_length r
  have hs : (Tr.B (Tr.tx (Tr.F.cons l r))).size = 2 * (l.size + r.size + 1) + 1 := by rw [Tr.B_size, Tr.tx_length]; simp only [Tr.F.size]; omega
  refine evpos (by omega) ?_
  have hex : (Tr.B (Tr.tx (Tr.F.cons l r))).extract 1 (Tr.B (Tr.tx (Tr.F.cons l r))).size = Tr.B (Tr.tx l ++ Tr.tx r) := by rw [Tr.B_extract, Tr.B_size, List.take_length]; rfl
  rw [hex]
  have hen : Tr.en (Tr.tx l ++ Tr.tx r) 1 = some (Tr.tx r) := by rw [Tr.en_tx l (Tr.tx r) 0, Tr.en_zero]
  have he := ev_endBinary (Tr.tx l ++ Tr.tx r) (by rw [List.length_append]; omega)
  rw [hen] at he
  refine Ev.bind he ?_
  have hw : wrap64 (((Tr.B (Tr.tx (Tr.F.cons l r))).size : Int) - ((Tr.B (Tr.tx r)).size : Int)) = ((2 * l.size + 2 : Nat) : Int) := by
    rw [hs, Tr.B_size, hr, Tr.wrap_id (by omega) (by omega)]; omega
  dsimp only
  rw [hw]
  refine evpos (by omega) (evpos (by omega) (evnow ?_))
  rw [Int.toNat_natCast, Tr.B_extract]
  congr 2
  show List.drop 1 (List.take (2 * l.size + 2) (49 :: (Tr.tx l ++ Tr.tx r))) = Tr.tx l
  rw [List.take_succ_cons, List.drop_succ_cons, List.drop_zero, List.take_append_of_le_length (by omega), List.take_of_length_le (by omega)]
theorem ev_l03End_l0 (A : List UInt8) (hA : A.length ≤ 1000000000) : ∀ (L : List UInt8) (a n : Nat), A.drop a = L → a + L.length = A.length → L.length + n ≤ 1000000000 →
    Ev (fun k => spec_l03End.l0 k (Tr.B A) (a : Int) (n : Int)) (match Tr.en L n with | some R => (A.length : Int) - (R.length : Int) | none => -1) := by
  intro L
  induction L with
  | nil =>
    intro a n hd ha hn
    simp only [List.length_nil] at ha
    refine Ev_succ ?_
    simp only [spec_l03End.l0]
    cases n with
    | zero => rw [Tr.en_zero]; exact evneg (by omega) (evnow (by simp; omega))
    | succ n =>
      refine evpos (by omega) (evpos (by rw [Tr.B_size]; omega) ?_)
      refine Ev_succ ?_
      simp only [spec_l03End.j1]
      exact evpos trivial (Ev.now _)
  | cons x L ih =>
    intro a n hd ha hn
    simp only [List.length_cons] at hn ha
    have ha2 : a < A.length := by omega
    have hx : A[a] = x ∧ A.drop (a + 1) = L := by
      rw [List.drop_eq_getElem_cons ha2] at hd
      exact ⟨(List.cons.inj hd).1, (List.cons.inj hd).2⟩
    have hsz : ((Tr.B A).size : Int) = (A.length : Int) := rfl
    refine Ev_succ ?_
    simp only [spec_l03End.l0]
    cases n with
    | zero => rw [Tr.en_zero]; exact evneg (by omega) (evnow (by simp only [List.length_cons]; omega))
    | succ n =>
      have hb : bt (Tr.B A) (a : Int) = (x.toNat : Int) := by rw [Tr.B_bt A a ha2, hx.1]
      refine evpos (by omega) (evneg (by omega) (evpos (by omega) (evpos (by omega) ?_)))
      rw [Tr.en]
      by_cases h0 : x = 48
      · rw [if_pos h0]
        refine evpos (by rw [hb]; exact (Tr.u8_48 x).mpr h0) ?_
        refine Ev_succ ?_
        simp only [spec_l03End.j1]
        refine evneg (by simp) (evpos (by omega) (evpos (by omega) (evneg (by rw [hb, h0]; decide) ?_)))
        rw [Tr.wrap_id (x := ((n + 1 : Nat) : Int) - 1) (by omega) (by omega), show ((n + 1 : Nat) : Int) - 1 = (n : Int) by omega, Tr.wrap_succ (by omega)]
        exact ih (a + 1) n hx.2 (by omega) (by omega)
      · rw [if_neg h0]
        have hb0 : ¬ bt (Tr.B A) (a : Int) = 48 := by rw [hb]; exact fun h => h0 ((Tr.u8_48 x).mp h)
        refine evneg hb0 ?_
        by_cases h1 : x = 49
        · rw [if_pos h1]
          have hb1 : bt (Tr.B A) (a : Int) = 49 := by rw [hb]; exact (Tr.u8_49 x).mpr h1
          refine Ev_succ ?_
          simp only [spec_l03End.j1]
          refine evneg (by rw [hb1]; decide) (evpos (by omega) (evpos (by omega) (evpos hb1 ?_)))
          rw [Tr.wrap_id (x := ((n + 1 : Nat) : Int) + 1) (by omega) (by omega), show ((n + 1 : Nat) : Int) + 1 = ((n + 2 : Nat) : Int) by omega, Tr.wrap_succ (by omega)]
          exact ih (a + 1) (n + 2) hx.2 (by omega) (by omega)
        · rw [if_neg h1]
          have hb1 : ¬ bt (Tr.B A) (a : Int) = 49 := by rw [hb]; exact fun h => h1 ((Tr.u8_49 x).mp h)
          refine Ev_succ ?_
          simp only [spec_l03End.j1]
          exact evpos (bne_iff_ne.mpr hb1) (Ev.now _)
theorem ev_l03Is (L : List UInt8) : Ev (fun k => spec_l03Is.f k (Tr.B L)) (decide (L.length ≤ 47 ∧ Tr.en L 1 = some [])) := by
  unfold spec_l03Is.f
  by_cases h : L.length ≤ 47
  · refine evpos (by rw [Tr.B_size]; omega) ?_
    have he := ev_l03End_l0 L (by omega) L 0 1 rfl (by omega) (by omega)
    refine Ev.bind (show Ev (fun k => spec_l03End.f k (Tr.B L) 0) _ from he) (evnow ?_)
    rw [Tr.B_size]
    cases hq : Tr.en L 1 with
    | none =>
      have : ((-1 : Int) == (L.length : Int)) = false := beq_eq_false_iff_ne.mpr (by omega)
      simp [this]
    | some R =>
      have hR := Tr.en_le L 1 R hq
      by_cases hR0 : R = []
      · simp [hR0, h]
      · have hp : 0 < R.length := List.length_pos_iff.mpr hR0
        have : ((L.length : Int) - (R.length : Int) == (L.length : Int)) = false := beq_eq_false_iff_ne.mpr (by omega)
        simp [this, hR0]
  · refine evneg (by rw [Tr.B_size]; omega) (evnow ?_)
    simp [h]
theorem ev_l03Sides (l r : Tr.F) (h : 2 * (l.size + r.size) ≤ 1000) : Ev (fun k => spec_l03Sides.f k (Tr.B (Tr.tx (Tr.F.cons l r)))) (Tr.B (Tr.tx l), Tr.B (Tr.tx r)) := by
  unfold spec_l03Sides.f
  have hl := Tr.tx_length l
  have hr := Tr.tx_length r
  have hs : (Tr.tx (Tr.F.cons l r)).length = 2 * (l.size + r.size + 1) + 1 := by rw [Tr.tx_length]; simp only [Tr.F.size]; omega
  have he := ev_l03End_l0 (Tr.tx (Tr.F.cons l r)) (by omega) (Tr.tx l ++ Tr.tx r) 1 1 rfl (by rw [List.length_append]; omega) (by rw [List.length_append]; omega)
  rw [show Tr.en (Tr.tx l ++ Tr.tx r) 1 = some (Tr.tx r) by rw [Tr.en_tx l (Tr.tx r) 0, Tr.en_zero]] at he
  refine Ev.bind (show Ev (fun k => spec_l03End.f k (Tr.B (Tr.tx (Tr.F.cons l r))) 1) _ from he) ?_
  dsimp only
  have hw : ((Tr.tx (Tr.F.cons l r)).length : Int) - ((Tr.tx r).length : Int) = ((2 * l.size + 2 : Nat) : Int) := by omega
  rw [hw]
  refine evpos (by omega) (evpos (by rw [Tr.B_size]; omega) (evpos (by omega) (evnow ?_)))
  rw [Int.toNat_natCast, Tr.B_extract, Tr.B_extract, Tr.B_size, List.take_length]
  have e1 : List.drop 1 (List.take (2 * l.size + 2) (49 :: (Tr.tx l ++ Tr.tx r))) = Tr.tx l := by
    rw [List.take_succ_cons, List.drop_succ_cons, List.drop_zero, List.take_append_of_le_length (by omega), List.take_of_length_le (by omega)]
  have e2 : List.drop (2 * l.size + 2) (49 :: (Tr.tx l ++ Tr.tx r)) = Tr.tx r := by
    rw [List.drop_succ_cons, List.drop_append, List.drop_eq_nil_of_le (by omega), List.nil_append, show 2 * l.size + 1 - (Tr.tx l).length = 0 by omega, List.drop_zero]
  exact Prod.ext (congrArg Tr.B e1) (congrArg Tr.B e2)
theorem ev_l09List : ∀ (t : Tr.F) (a : Int), t.size ≤ 400 → 0 ≤ a → a + t.size ≤ 1000 → Ev (fun k => spec_l09List.f k (Tr.B (Tr.tx t)) a) (Tr.ls t a) := by
  intro t
  induction t with
  | nil =>
    intro a _ _ _
    refine Ev_succ ?_
    simp only [spec_l09List.f]
    exact evpos (Tr.B_toList _) (Ev.now _)
  | cons l r ihl ihr =>
    intro a h h0 h1
    simp only [Tr.F.size] at h h1
    refine Ev_succ ?_
    simp only [spec_l09List.f]
    have hn : ∀ t : Tr.F, t.size ≤ 1000 → spec_l03N.f (Tr.B (Tr.tx t)) = some (t.size : Int) := by
      intro t ht
      unfold spec_l03N.f
      rw [Tr.B_size, Tr.tx_length, Tr.wrap_id (by omega) (by omega)]
      congr 1; omega
    refine evneg (by rw [Tr.B_toList]; exact Tr.tx_ne l r) (Ev.bind (ev_l03Sides l r (by omega)) ?_)
    dsimp only
    rw [hn r (by omega), hn (Tr.F.cons l r) (by simp only [Tr.F.size]; omega)]
    simp only [Option.bind_some]
    rw [Tr.wrap_id (x := a + (r.size : Int)) (by omega) (by omega), Tr.wrap_id (x := a + ((Tr.F.cons l r).size : Int)) (by omega) (by simp only [Tr.F.size]; omega), Tr.wrap_id (by omega) (by simp only [Tr.F.size]; omega)]
    refine Ev.bind (ihl (a + r.size) (by omega) (by omega) (by omega)) ?_
    have hll := Tr.ls_length l (a + r.size)
    have hlr := Tr.ls_length r a
    refine evpos (by omega) ?_
    refine Ev.bind (ihr a (by omega) h0 (by omega)) ?_
    refine evpos (by simp only [List.length_append, List.length_singleton]; omega) (evnow ?_)
    rw [Tr.ls]
    congr 3
    simp only [Tr.F.size]; omega
theorem Ev_shift {α : Type} {g : Nat → Option α} {r : α} (h : Ev g r) (j : Nat) : Ev (fun k => g (k + j)) r := by
  obtain ⟨K, hK⟩ := h
  exact ⟨K, fun k hk => hK _ (by omega)⟩
theorem ev_list_w : ∀ (t : Tr.F) (j f : Nat) (a : Int) (L : List Int), 0 ≤ a → a + t.size ≤ 400 → f + t.size ≤ L.length → L.length ≤ 1000 →
    Ev (fun k => impl_ListOfDecreasing.w (k + j) k (Tr.B (Tr.tx t)) (f : Int) (a + t.size - 1) L) (a - 1, L.take f ++ Tr.ls t a ++ L.drop (f + t.size)) := by
  intro t
  induction t with
  | nil =>
    intro j f a L h0 h1 h2 h3
    refine Ev_succ ?_
    simp only [impl_ListOfDecreasing.w]
    refine evpos (Tr.B_toList _) (evnow ?_)
    simp [Tr.ls, Tr.F.size]
  | cons l r ihl ihr =>
    intro j f a L h0 h1 h2 h3
    simp only [Tr.F.size] at h1 h2
    refine Ev_succ ?_
    simp only [impl_ListOfDecreasing.w]
    refine evneg (by rw [Tr.B_toList]; exact Tr.tx_ne l r) ?_
    have hs := Ev_shift (ev_impl_sides l r (by omega)) (1 + j)
    refine Ev.bind (Ev.congr (fun k => by rw [Nat.add_assoc]) hs) ?_
    dsimp only
    have hn : impl_nodesOf.f (Tr.B (Tr.tx l)) = some (l.size : Int) := by
      unfold impl_nodesOf.f
      rw [Tr.B_size, Tr.tx_length, Tr.wrap_id (by omega) (by omega)]
      congr 1; omega
    rw [hn]
    refine evsome ?_
    have hw : wrap64 ((f : Int) + (l.size : Int)) = ((f + l.size : Nat) : Int) := by rw [Tr.wrap_id (by omega) (by omega)]; omega
    have hx : wrap64 (a + ((Tr.F.cons l r).size : Int) - 1 - 1) = (a + (r.size : Int)) + (l.size : Int) - 1 := by
      simp only [Tr.F.size]; rw [Tr.wrap_id (by omega) (by omega)]; omega
    have hx2 : a + ((Tr.F.cons l r).size : Int) - 1 = a + (l.size + r.size + 1 : Nat) - 1 := by simp only [Tr.F.size]; omega
    rw [hw, hx, Int.toNat_natCast, hx2]
    refine evpos (by omega) (evpos (by omega) ?_)
    have e1 := ihl (j + 1) f (a + r.size) (L.set (f + l.size) (a + (l.size + r.size + 1 : Nat) - 1)) (by omega) (by omega) (by rw [List.length_set]; omega) (by rw [List.length_set]; omega)
    obtain ⟨hp, hq⟩ := Tr.ls_parts (L := L) (f := f) (n := l.size) (x := a + (l.size + r.size + 1 : Nat) - 1) (X := Tr.ls l (a + r.size)) (Y := Tr.ls r a) (m := r.size) (Tr.ls_length l _) (by omega) _ rfl
    refine Ev.bind (Ev.congr (fun k => by rw [Nat.add_assoc k 1 j, Nat.add_comm 1 j]) e1) ?_
    dsimp only
    rw [Tr.wrap_succ (by omega)]
    have hll : (L.set (f + l.size) (a + (l.size + r.size + 1 : Nat) - 1)).length = L.length := List.length_set
    have hlen : ((L.set (f + l.size) (a + (l.size + r.size + 1 : Nat) - 1)).take f ++ Tr.ls l (a + r.size) ++ (L.set (f + l.size) (a + (l.size + r.size + 1 : Nat) - 1)).drop (f + l.size)).length ≤ 1000 := by
      simp only [List.length_append, List.length_take, List.length_drop, List.length_set, Tr.ls_length]; omega
    have e2 := ihr (j + 1) (f + l.size + 1) a _ h0 (by omega) hp hlen
    rw [hq] at e2
    refine Ev.congr (fun k => by rw [Nat.add_assoc k 1 j, Nat.add_comm 1 j]) ?_
    rw [show (Tr.F.cons l r).size = l.size + r.size + 1 from by simp only [Tr.F.size]; omega]
    exact e2
theorem ev_ListOfDecreasing (s : ByteArray) : ∃ r : List Int × Int, Ev (fun k => spec_ListOfDecreasing.f k s) r ∧ Ev (fun k => impl_ListOfDecreasing.f k s) r ∧ r.1.length ≤ 1000 := by
  obtain ⟨L, rfl⟩ := Tr.B_of s
  by_cases h : L.length ≤ 47 ∧ Tr.en L 1 = some []
  · obtain ⟨t, rfl⟩ := Tr.en_whole h.2
    have hz : t.size ≤ 23 := by have := h.1; rw [Tr.tx_length] at this; omega
    refine ⟨(Tr.ls t 0, 0), ?_, ?_, by rw [Tr.ls_length]; omega⟩
    · unfold spec_ListOfDecreasing.f
      refine Ev.bind (ev_l03Is _) (evpos (decide_eq_true h) (Ev.bind (ev_l09List t 0 (by omega) (by omega) (by omega)) (Ev.now _)))
    · unfold impl_ListOfDecreasing.f
      refine Ev.bind (ev_IsBinary _) (evpos (decide_eq_true h) ?_)
      have hn : impl_nodesOf.f (Tr.B (Tr.tx t)) = some (t.size : Int) := by
        unfold impl_nodesOf.f
        rw [Tr.B_size, Tr.tx_length, Tr.wrap_id (by omega) (by omega)]
        congr 1; omega
      rw [hn]
      refine evsome (evpos (by omega) ?_)
      have e := ev_list_w t 0 0 0 (List.replicate t.size 0) (by omega) (by omega) (by rw [List.length_replicate]; omega) (by rw [List.length_replicate]; omega)
      rw [Tr.wrap_id (by omega) (by omega), Int.toNat_natCast, show (t.size : Int) - 1 = 0 + t.size - 1 by omega]
      refine Ev.bind e (evnow ?_)
      simp
  · refine ⟨([], 1), ?_, ?_, by simp⟩
    · unfold spec_ListOfDecreasing.f
      exact Ev.bind (ev_l03Is _) (evneg (by rw [decide_eq_false h]; simp) (Ev.now _))
    · unfold impl_ListOfDecreasing.f
      exact Ev.bind (ev_IsBinary _) (evneg (by rw [decide_eq_false h]; simp) (Ev.now _))
theorem pure_FnExactListOfDecreasing (a0 : ByteArray) (hl0 : a0.size ≤ 140737488351232) : ∃ k, laws_FnExactListOfDecreasing.f k a0 = some true := by
  refine Ev.rounds ?_
  unfold laws_FnExactListOfDecreasing.f
  by_cases hs0 : (a0.size : Int) > 1048576
  · exact evpos hs0 (Ev.now _)
  refine evneg hs0 ?_
  obtain ⟨r, hq, hi, hb⟩ := ev_ListOfDecreasing a0
  repeat first
    | exact Ev.now _
    | refine Ev.bind hq ?_
    | refine Ev.bind hi ?_
    | refine Ev.bind (ev_eqInt64S _ _ (by omega) (by omega)) ?_
    | refine Ev.bind (ev_markInt64S _ _ (by first | omega | simp) (by first | omega | (simp; omega))) ?_
    | refine Ev.bind (ev_heldInt64S _ _ (by first | omega | simp) (by first | omega | (simp; omega))) ?_
    | (refine evpos ?_ ?_; first | rfl | (simp <;> fail))
    | (refine evneg ?_ ?_; first | (simp <;> fail) | (simp <;> omega))
end Go.Proofs.Yteangdgmokkjbaa.QFnExactListOfDecreasing
