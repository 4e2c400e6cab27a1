import Derived.Test.YtlealjliaifkcaeQFnExactDecreasingTreex
import Derived.Test.YtlealjliaifkcaeTr
import Derived.Test.YtlealjliaifkcaeNd
import Derived.Test.YtlealjliaifkcaeGr
import Derived.Test.YtlealjliaifkcaeIx
import Derived.Test.YtlealjliaifkcaeDc
namespace Go.Proofs.Ytlealjliaifkcae.QFnExactDecreasingTree
open Go.RowKit Go.Proofs.YtlealjliaifkcaeW.PrintWords Go.Proofs.YtlealjliaifkcaeW.PrintLast Go.Proofs.YtlealjliaifkcaeW.PrintMore Go.Proofs.Ytlealjliaifkcae
set_option linter.unusedVariables false
set_option linter.unusedSimpArgs false
theorem Ev_succ {α : Type} {g : Nat → Option α} {r : α} (h : Ev (fun k => g (k + 1)) r) : Ev g r := Ev.step (fun _ => rfl) h
theorem evpos {α : Type} {c : Prop} [Decidable c] {f g : Nat → Option α} {r : α} (h : c) (k : Ev f r) : Ev (fun n => if c then f n else g n) r := by
  simp only [if_pos h]; exact k
theorem evneg {α : Type} {c : Prop} [Decidable c] {f g : Nat → Option α} {r : α} (h : ¬ c) (k : Ev g r) : Ev (fun n => if c then f n else g n) r := by
  simp only [if_neg h]; exact k
theorem evsome {α β : Type} {a : α} {f : Nat → α → Option β} {r : β} (k : Ev (fun n => f n a) r) : Ev (fun n => (some a).bind (f n)) r := k
theorem evnow {α : Type} {a r : α} (h : a = r) : Ev (fun _ => some a) r := by subst h; exact Ev.now _
theorem ev_eq_l0 (xs ys : List Int) (hl : xs.length = ys.length) (hb : xs.length ≤ 1152921504606846976) : ∀ (n i : Nat), i + n = xs.length →
    Ev (fun k => laws_eqInt64S.l0 k xs ys (i : Nat)) (decide (xs.drop i = ys.drop i)) := by
  intro n
  induction n with
  | zero =>
    intro i hi
    refine Ev_succ ?_
    simp only [laws_eqInt64S.l0]
    refine evneg (by omega) (evnow ?_)
    rw [List.drop_of_length_le (by omega), List.drop_of_length_le (by omega)]; rfl
  | succ n ih =>
    intro i hi
    refine Ev_succ ?_
    simp only [laws_eqInt64S.l0]
    refine evpos (by omega) (evpos (by omega) (evpos (by omega) ?_))
    rw [Tr.rd_getElem (by omega : i < xs.length), Tr.rd_getElem (by omega : i < ys.length)]
    have e : wrap64 ((i : Int) + 1) = ((i + 1 : Nat) : Int) := by rw [Tr.wrap_id (by omega) (by omega)]; omega
    rw [e]
    have e3 : (xs.drop i = ys.drop i) = (xs[i] = ys[i] ∧ xs.drop (i + 1) = ys.drop (i + 1)) := by
      rw [List.drop_eq_getElem_cons (by omega : i < xs.length), List.drop_eq_getElem_cons (by omega : i < ys.length)]
      exact List.cons.injEq _ _ _ _
    have e4 : decide (xs.drop i = ys.drop i) = decide (xs[i] = ys[i] ∧ xs.drop (i + 1) = ys.drop (i + 1)) := by simp only [e3]
    rw [e4]
    by_cases h : xs[i] = ys[i]
    · refine evpos h ?_
      have := ih (i + 1) (by omega)
      rw [show decide (xs[i] = ys[i] ∧ xs.drop (i + 1) = ys.drop (i + 1)) = decide (xs.drop (i + 1) = ys.drop (i + 1)) by simp only [h, true_and]]
      exact this
    · refine evneg h (evnow ?_)
      simp only [h, false_and, decide_false]
theorem ev_eqInt64S (xs ys : List Int) (hb : xs.length ≤ 1152921504606846976) (hc : ys.length ≤ 1152921504606846976) : Ev (fun k => laws_eqInt64S.f k xs ys) (decide (xs = ys)) := by
  unfold laws_eqInt64S.f
  by_cases h : xs.length = ys.length
  · refine evpos (by omega) ?_
    have := ev_eq_l0 xs ys h hb xs.length 0 (by omega)
    simpa using this
  · refine evneg (by omega) (evnow ?_)
    rw [eq_comm, decide_eq_false_iff_not]
    intro e; exact h (by rw [e])
theorem ev_to_l0 (xs : List Int) (hb : xs.length ≤ 35184372088832) : ∀ (n i : Nat) (ys : List Int), i + n = xs.length → ys.length = xs.length → ys.take i = xs.take i →
    Ev (fun k => laws_toInt64S.l0 k xs ys (i : Nat)) xs := by
  intro n
  induction n with
  | zero =>
    intro i ys hi hy ht
    refine Ev_succ ?_
    simp only [laws_toInt64S.l0]
    refine evneg (by omega) (evnow ?_)
    rwa [List.take_of_length_le (by omega), List.take_of_length_le (by omega)] at ht
  | succ n ih =>
    intro i ys hi hy ht
    refine Ev_succ ?_
    simp only [laws_toInt64S.l0]
    refine evpos (by omega) (evpos (by omega) (evpos (by omega) ?_))
    have e : wrap64 ((i : Int) + 1) = ((i + 1 : Nat) : Int) := by rw [Tr.wrap_id (by omega) (by omega)]; omega
    rw [e, Tr.rd_getElem (by omega : i < xs.length), Int.toNat_natCast]
    refine ih (i + 1) _ (by omega) (by simp [hy]) ?_
    rw [List.take_succ_eq_append_getElem (by simp; omega), List.take_succ_eq_append_getElem (by omega)]
    simp [List.take_set_of_le, ht]
theorem ev_toInt64S (xs : List Int) (hb : xs.length ≤ 35184372088832) : Ev (fun k => laws_toInt64S.f k xs) xs := by
  unfold laws_toInt64S.f
  refine evpos (by omega) (evpos (by omega) ?_)
  have := ev_to_l0 xs hb xs.length 0 (List.replicate xs.length 0) (by omega) (by simp) (by simp)
  simpa using this
/-- The numbers m, m + 1, .. -/
def up (m : Int) : Nat → List Int
  | 0 => []
  | n + 1 => m :: up (m + 1) n
theorem up_len (n : Nat) : ∀ m, (up m n).length = n := by
  induction n with
  | zero => intro m; rfl
  | succ n ih => intro m; simp [up, ih]
theorem up_get (n : Nat) : ∀ (m : Int) (i : Nat) (h : i < (up m n).length), (up m n)[i] = m + i := by
  induction n with
  | zero => intro m i h; simp [up] at h
  | succ n ih =>
    intro m i h
    cases i with
    | zero => simp [up]
    | succ i => simp only [up, List.getElem_cons_succ, ih]; omega
theorem ev_Index_l0 (x : Int) : ∀ (l pre : List Int) (N : Int), N = ((pre ++ l).length : Int) → N ≤ 100000000 → Ev (fun k => slices_Index_int64_int64.l0 k (pre ++ l) x N (pre.length : Int)) (Tr.idx x l pre.length) := by
  intro l
  induction l with
  | nil =>
    intro pre N hN hb
    refine Ev_succ ?_
    simp only [slices_Index_int64_int64.l0]
    simp only [List.length_append, List.length_nil] at hN
    exact evneg (by omega) (evnow rfl)
  | cons y l ih =>
    intro pre N hN hb
    have hN' := hN
    simp only [List.length_append, List.length_cons] at hN
    refine Ev_succ ?_
    simp only [slices_Index_int64_int64.l0]
    rw [Tr.rd_app0, Tr.rd_cons0]
    refine evpos (by omega) (evpos (by omega) (evpos (by simp; omega) ?_))
    unfold Tr.idx
    by_cases h : x = y
    · rw [if_pos h]; exact evpos h (Ev.now _)
    · rw [if_neg h]
      refine evneg h ?_
      rw [Tr.wrap_succ (by omega)]
      have := ih (pre ++ [y]) N (by rw [hN']; simp) hb
      simpa using this
theorem ev_Index (l : List Int) (x : Int) (h : l.length ≤ 100000000) : Ev (fun k => slices_Index_int64_int64.f k l x) (Tr.idx x l 0) := by
  unfold slices_Index_int64_int64.f
  exact ev_Index_l0 x l [] l.length (by simp) (by omega)
theorem deg_range {d : List Int} {t : Tr.F} (h : Tr.Tree d t) {v : Nat} (hv : v < t.size) : 0 ≤ rd d (v : Int) ∧ rd d (v : Int) ≤ 24 := by
  have h1 := h.deg hv
  have h2 := h.fits hv
  have h3 := Tr.F.len_le (t.sub v)
  have h4 := h.few
  omega
def takeOutL (d : List Int) (t : Tr.F) (v : Nat) : List Int := (d.take v ++ d.drop (v + 1)).set (t.par 0 (-1) v).toNat (rd d (t.par 0 (-1) v) + rd d (v : Int) - 1)
theorem rd_take {d : List Int} {v p : Nat} (h : p < v) (hv : v ≤ d.length) : rd (d.take v) (p : Int) = rd d (p : Int) := by
  have e : rd d (p : Int) = rd (d.take v ++ d.drop v) (p : Int) := by rw [List.take_append_drop]
  rw [e, Tr.rd_left _ _ _ (by omega) (by simp; omega)]
theorem ev_l09Dec_l0 (l : List Int) (hl : l.length ≤ 1000) (R : ByteArray) (hR : Ev (fun k => if 0 ≤ (Tr.amax l : Int) then (if (Tr.amax l : Int) ≤ (l.length : Int) then ((spec_l09Decreasing.f k (l.take (Tr.amax l))).bind fun t106 => (if 1 + t106.size ≤ 9223372036854775807 then (if 0 ≤ (wrap64 ((Tr.amax l : Int) + 1)) then (if (wrap64 ((Tr.amax l : Int) + 1)) ≤ (l.length : Int) then ((spec_l09Decreasing.f k (l.drop ((wrap64 ((Tr.amax l : Int) + 1)) : Int).toNat)).bind fun t108 => (if ((⟨#[49]⟩ : ByteArray) ++ t106).size + t108.size ≤ 9223372036854775807 then (some (((⟨#[49]⟩ : ByteArray) ++ t106) ++ t108)) else (none))) else (none)) else (none)) else (none))) else (none)) else (none)) R) :
    ∀ (m i b : Nat), i + m = l.length → b < i → Tr.amx l m i b = Tr.amax l → Ev (fun k => spec_l09Decreasing.l0 k l (b : Int) (i : Int)) R := by
  intro m
  induction m with
  | zero =>
    intro i b hi hb ha
    refine Ev_succ ?_
    simp only [spec_l09Decreasing.l0]
    refine evneg (by omega) ?_
    simp only [Tr.amx] at ha
    rw [ha]
    simpa using hR
  | succ m ih =>
    intro i b hi hb ha
    refine Ev_succ ?_
    simp only [spec_l09Decreasing.l0]
    rw [Tr.wrap_succ (by omega)]
    refine evpos (by omega) (evpos (by omega) (evpos (by omega) (evpos (by omega) ?_)))
    unfold Tr.amx at ha
    by_cases h : rd l (i : Int) > rd l (b : Int)
    · rw [if_pos h] at ha
      exact evpos h (ih (i + 1) i (by omega) (by omega) ha)
    · rw [if_neg h] at ha
      exact evneg h (ih (i + 1) b (by omega) (by omega) ha)
theorem ev_l09Dec : ∀ (n : Nat) (l : List Int), l.length ≤ n → l.length ≤ 1000 → Ev (fun k => spec_l09Decreasing.f k l) (Tr.dect n l) := by
  intro n
  induction n with
  | zero =>
    intro l hn hl
    refine Ev_succ ?_
    simp only [spec_l09Decreasing.f]
    exact evpos (by omega) (Ev.now _)
  | succ n ih =>
    intro l hn hl
    refine Ev_succ ?_
    simp only [spec_l09Decreasing.f]
    by_cases h0 : l.length = 0
    · refine evpos (by omega) (evnow ?_)
      unfold Tr.dect; rw [if_pos h0]
    · refine evneg (by omega) ?_
      have ha := (Tr.amax_spec (l := l) (by omega)).1
      refine ev_l09Dec_l0 l hl _ ?_ (l.length - 1) 1 0 (by omega) (by omega) rfl
      have s1 := Tr.dect_size n (l.take (Tr.amax l))
      have s2 := Tr.dect_size n (l.drop (Tr.amax l + 1))
      simp only [List.length_take, List.length_drop] at s1 s2
      refine evpos (by omega) (evpos (by omega) (Ev.bind (ih (l.take (Tr.amax l)) (by simp; omega) (by simp; omega)) ?_))
      rw [Tr.wrap_succ (by omega)]
      refine evpos (by omega) (evpos (by omega) (evpos (by omega) ?_))
      rw [Int.toNat_natCast]
      refine Ev.bind (ih (l.drop (Tr.amax l + 1)) (by simp; omega) (by simp; omega)) ?_
      refine evpos ?_ (evnow ?_)
      · rw [ByteArray.size_append]
        have : (⟨#[49]⟩ : ByteArray).size = 1 := rfl
        omega
      · rw [Tr.dect, if_neg h0]
theorem ev_DecTree_l1 (l : List Int) (hl : l.length ≤ 1000) (i : Nat) (hi : i < l.length) (R : ByteArray × Int) (hR : (∀ j : Nat, j < i → rd l (i : Int) ≠ rd l (j : Int)) → Ev (fun k => spec_DecreasingTree.l0 k l ((i + 1 : Nat) : Int)) R)
    (hD : ¬ (∀ j : Nat, j < i → rd l (i : Int) ≠ rd l (j : Int)) → R = (⟨#[]⟩, 2)) : ∀ (m j : Nat), j + m = i → (∀ a : Nat, a < j → rd l (i : Int) ≠ rd l (a : Int)) →
    Ev (fun k => spec_DecreasingTree.l1 k l (i : Int) (j : Int)) R := by
  intro m
  induction m with
  | zero =>
    intro j hj hd
    refine Ev_succ ?_
    simp only [spec_DecreasingTree.l1]
    rw [Tr.wrap_succ (i := i) (by omega)]
    exact evneg (by omega) (hR (fun a ha => hd a (by omega)))
  | succ m ih =>
    intro j hj hd
    refine Ev_succ ?_
    simp only [spec_DecreasingTree.l1]
    rw [Tr.wrap_succ (i := j) (by omega)]
    refine evpos (by omega) (evpos (by omega) (evpos (by omega) (evpos (by omega) (evpos (by omega) ?_))))
    by_cases h : rd l (i : Int) = rd l (j : Int)
    · refine evpos h (evnow ?_)
      exact (hD (fun q => q j (by omega) h)).symm
    · refine evneg h (ih (j + 1) (by omega) (fun a ha => ?_))
      rcases Nat.lt_or_ge a j with q | q
      · exact hd a q
      · have : a = j := by omega
        subst this; exact h
theorem ev_DecTree_l0 (l : List Int) (hl : l.length ≤ 1000) : ∀ (m i : Nat), i + m = l.length → (∀ a : Nat, a < i → ∀ b : Nat, b < a → rd l (a : Int) ≠ rd l (b : Int)) →
    Ev (fun k => spec_DecreasingTree.l0 k l (i : Int)) (if l.Nodup then (Tr.dect l.length l, 0) else (⟨#[]⟩, 2)) := by
  intro m
  induction m with
  | zero =>
    intro i hi hd
    refine Ev_succ ?_
    simp only [spec_DecreasingTree.l0]
    refine evneg (by omega) (Ev.bind (ev_l09Dec l.length l (Nat.le_refl _) hl) (evnow ?_))
    rw [if_pos (Tr.nodup_rd.mpr (fun a ha b hb => hd a (by omega) b hb))]
  | succ m ih =>
    intro i hi hd
    refine Ev_succ ?_
    simp only [spec_DecreasingTree.l0]
    refine evpos (by omega) (ev_DecTree_l1 l hl i (by omega) _ (fun hq => ih (i + 1) (by omega) (fun a ha b hb => ?_)) (fun hq => ?_) i 0 (by omega) (fun a ha => absurd ha (by omega)))
    · rcases Nat.lt_or_ge a i with q | q
      · exact hd a q b hb
      · have : a = i := by omega
        subst this; exact hq b hb
    · rw [if_neg]
      intro hn
      exact hq (fun j hj => Tr.nodup_rd.mp hn i (by omega) j hj)
theorem ev_DecTree_spec (l : List Int) : Ev (fun k => spec_DecreasingTree.f k l) (if l.length ≤ 23 ∧ l.Nodup then (Tr.dect l.length l, 0) else (⟨#[]⟩, 2)) := by
  unfold spec_DecreasingTree.f
  by_cases h : l.length ≤ 23
  · refine evneg (by omega) ?_
    have := ev_DecTree_l0 l (by omega) l.length 0 (by omega) (fun a ha => absurd ha (by omega))
    by_cases hn : l.Nodup
    · rw [if_pos ⟨h, hn⟩]; rw [if_pos hn] at this; exact this
    · rw [if_neg (fun q => hn q.2)]; rw [if_neg hn] at this; exact this
  · refine evpos (by omega) (evnow ?_)
    rw [if_neg (fun q => h q.1)]
theorem ev_Max_l0 (l : List Int) (hl : l.length ≤ 1000) : ∀ (m i b : Nat), i + m = l.length → Ev (fun k => slices_Max_int64_int64.l0 k l (rd l (b : Int)) (i : Int)) (rd l (Tr.amx l m i b : Int)) := by
  intro m
  induction m with
  | zero =>
    intro i b hi
    refine Ev_succ ?_
    simp only [slices_Max_int64_int64.l0]
    exact evneg (by omega) (Ev.now _)
  | succ m ih =>
    intro i b hi
    refine Ev_succ ?_
    simp only [slices_Max_int64_int64.l0]
    rw [Tr.wrap_succ (by omega)]
    refine evpos (by omega) (evpos (by omega) ?_)
    unfold Tr.amx
    by_cases h : rd l (i : Int) > rd l (b : Int)
    · rw [if_pos h, show mx (rd l (b : Int)) (rd l (i : Int)) = rd l (i : Int) by unfold mx; omega]
      exact ih (i + 1) i (by omega)
    · rw [if_neg h, show mx (rd l (b : Int)) (rd l (i : Int)) = rd l (b : Int) by unfold mx; omega]
      exact ih (i + 1) b (by omega)
theorem ev_Max (l : List Int) (h1 : 1 ≤ l.length) (hl : l.length ≤ 1000) : Ev (fun k => slices_Max_int64_int64.f k l) (rd l (Tr.amax l : Int)) := by
  unfold slices_Max_int64_int64.f
  exact evneg (by omega) (evpos (by omega) (ev_Max_l0 l hl (l.length - 1) 1 0 (by omega)))
theorem ev_decreasing : ∀ (n : Nat) (l : List Int), l.length ≤ n → l.length ≤ 1000 → Ev (fun k => impl_decreasing.f k l) (Tr.dect n l) := by
  intro n
  induction n with
  | zero =>
    intro l hn hl
    refine Ev_succ ?_
    simp only [impl_decreasing.f]
    exact evpos (by omega) (Ev.now _)
  | succ n ih =>
    intro l hn hl
    refine Ev_succ ?_
    simp only [impl_decreasing.f]
    by_cases h0 : l.length = 0
    · refine evpos (by omega) (evnow ?_)
      unfold Tr.dect; rw [if_pos h0]
    · refine evneg (by omega) ?_
      have ha := (Tr.amax_spec (l := l) (by omega)).1
      have s1 := Tr.dect_size n (l.take (Tr.amax l))
      have s2 := Tr.dect_size n (l.drop (Tr.amax l + 1))
      simp only [List.length_take, List.length_drop] at s1 s2
      refine Ev.bind (ev_Max l (by omega) hl) (Ev.bind (ev_Index l _ (by omega)) ?_)
      rw [Tr.idx_amax (by omega)]
      refine evpos (by omega) (evpos (by omega) ?_)
      rw [Int.toNat_natCast]
      refine Ev.bind (ih (l.take (Tr.amax l)) (by simp; omega) (by simp; omega)) ?_
      rw [Tr.wrap_succ (by omega)]
      refine evpos (by omega) (evpos (by omega) (evpos (by omega) ?_))
      rw [Int.toNat_natCast]
      refine Ev.bind (ih (l.drop (Tr.amax l + 1)) (by simp; omega) (by simp; omega)) ?_
      refine evpos ?_ (evnow ?_)
      · rw [ByteArray.size_append]
        have : (⟨#[49]⟩ : ByteArray).size = 1 := rfl
        omega
      · rw [Tr.dect, if_neg h0]
theorem ev_DecreasingTree (l : List Int) (hl : l.length ≤ 100000000) : ∃ r : ByteArray × Int, Ev (fun k => spec_DecreasingTree.f k l) r ∧ Ev (fun k => impl_DecreasingTree.f k l) r := by
  refine ⟨_, ev_DecTree_spec l, ?_⟩
  unfold impl_DecreasingTree.f
  rw [show slices_Clone.f l = some l by unfold slices_Clone.f; rw [if_pos hl]]
  refine evsome ?_
  rw [show slices_Sort.f l = some (Tr.msort' l) by unfold slices_Sort.f; rw [if_pos hl]; rfl]
  refine evsome ?_
  by_cases h : l.length ≤ 23
  · refine evneg (by omega) ?_
    have hml := Tr.msort'_len l
    have hmn : (Tr.msort' l).Nodup ↔ l.Nodup := (Tr.msort'_perm l).nodup_iff
    have hc : slices_Compact.f (Tr.msort' l) = some (if Tr.msort' l = [] then [] else Lib.compact (Tr.msort' l)) := by unfold slices_Compact.f; rw [if_pos (by omega)]
    rw [hc]
    refine evsome ?_
    have hcl : (if Tr.msort' l = [] then [] else Lib.compact (Tr.msort' l)).length = l.length ↔ l.Nodup := by
      by_cases h0 : Tr.msort' l = []
      · rw [if_pos h0]
        rw [h0] at hml
        simp only [List.length_nil] at hml ⊢
        have : l = [] := List.eq_nil_of_length_eq_zero hml.symm
        subst this; simp
      · rw [if_neg h0, ← hmn, ← Tr.compact_full (Tr.msort'_sorted l), hml]
    by_cases hn : l.Nodup
    · rw [if_pos (show l.length ≤ 23 ∧ l.Nodup from ⟨h, hn⟩)]
      have := hcl.mpr hn
      exact evpos (by omega) (Ev.bind (ev_decreasing l.length l (Nat.le_refl _) (by omega)) (Ev.now _))
    · rw [if_neg (show ¬ (l.length ≤ 23 ∧ l.Nodup) from fun q => hn q.2)]
      refine evneg ?_ (Ev.now _)
      intro q
      exact hn (hcl.mp (by omega))
  · refine evpos (by omega) (evnow ?_)
    rw [if_neg (fun q => h q.1)]
theorem pure_FnExactDecreasingTree (l0 : List Int) (hl0 : l0.length ≤ maxLen) (_ : ∀ x ∈ l0, (Lit.int .i64 x).wf = true) : ∃ k, laws_FnExactDecreasingTree.f k l0 = some true := by
  unfold maxLen at hl0
  refine Ev.rounds ?_
  unfold laws_FnExactDecreasingTree.f
  by_cases hs0 : (l0.length : Int) > 1048576
  · exact evpos hs0 (Ev.now _)
  refine evneg hs0 ?_
  obtain ⟨r, hq, hi⟩ := ev_DecreasingTree l0 (by omega)
  repeat first
    | exact Ev.now _
    | refine Ev.bind hq ?_
    | refine Ev.bind hi ?_
    | refine Ev.bind (ev_toInt64S l0 (by omega)) ?_
    | refine Ev.bind (ev_eqInt64S l0 l0 (by omega) (by omega)) ?_
    | (refine evpos ?_ ?_; first | rfl | (simp <;> fail))
    | (refine evneg ?_ ?_; first | (simp <;> fail) | (simp <;> omega))
    | (refine Ev_succ ?_; simp only [laws_FnExactDecreasingTree.j0])
end Go.Proofs.Ytlealjliaifkcae.QFnExactDecreasingTree
