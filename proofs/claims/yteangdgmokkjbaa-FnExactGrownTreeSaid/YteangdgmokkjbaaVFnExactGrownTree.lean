import Derived.Test.YteangdgmokkjbaaQFnExactGrownTreex
import Derived.Test.YteangdgmokkjbaaTr
import Derived.Test.YteangdgmokkjbaaNd
import Derived.Test.YteangdgmokkjbaaGt
namespace Go.Proofs.Yteangdgmokkjbaa.QFnExactGrownTree
open Go.RowKit Go.Proofs.YteangdgmokkjbaaW.PrintWords Go.Proofs.YteangdgmokkjbaaW.PrintLast Go.Proofs.YteangdgmokkjbaaW.PrintMore Go.Proofs.Yteangdgmokkjbaa
set_option linter.unusedVariables false
set_option linter.unusedSimpArgs false
theorem Ev_succ {α : Type} {g : Nat → Option α} {r : α} (h : Ev (fun k => g (k + 1)) r) : Ev g r := Ev.step (fun _ => rfl) h
theorem evpos {α : Type} {c : Prop} [Decidable c] {f g : Nat → Option α} {r : α} (h : c) (k : Ev f r) : Ev (fun n => if c then f n else g n) r := by
  simp only [if_pos h]; exact k
theorem evneg {α : Type} {c : Prop} [Decidable c] {f g : Nat → Option α} {r : α} (h : ¬ c) (k : Ev g r) : Ev (fun n => if c then f n else g n) r := by
  simp only [if_neg h]; exact k
theorem evsome {α β : Type} {a : α} {f : Nat → α → Option β} {r : β} (k : Ev (fun n => f n a) r) : Ev (fun n => (some a).bind (f n)) r := k
theorem evnow {α : Type} {a r : α} (h : a = r) : Ev (fun _ => some a) r := by subst h; exact Ev.now _
theorem ev_eq_l0 (xs ys : List Int) (hl : xs.length = ys.length) (hb : xs.length ≤ 1152921504606846976) : ∀ (n i : Nat), i + n = xs.length →
    Ev (fun k => laws_eqInt64S.l0 k xs ys (i : Nat)) (decide (xs.drop i = ys.drop i)) := by
  intro n
  induction n with
  | zero =>
    intro i hi
    refine Ev_succ ?_
    simp only [laws_eqInt64S.l0]
    refine evneg (by omega) (evnow ?_)
    rw [List.drop_of_length_le (by omega), List.drop_of_length_le (by omega)]; rfl
  | succ n ih =>
    intro i hi
    refine Ev_succ ?_
    simp only [laws_eqInt64S.l0]
    refine evpos (by omega) (evpos (by omega) (evpos (by omega) ?_))
    rw [Tr.rd_getElem (by omega : i < xs.length), Tr.rd_getElem (by omega : i < ys.length)]
    have e : wrap64 ((i : Int) + 1) = ((i + 1 : Nat) : Int) := by rw [Tr.wrap_id (by omega) (by omega)]; omega
    rw [e]
    have e3 : (xs.drop i = ys.drop i) = (xs[i] = ys[i] ∧ xs.drop (i + 1) = ys.drop (i + 1)) := by
      rw [List.drop_eq_getElem_cons (by omega : i < xs.length), List.drop_eq_getElem_cons (by omega : i < ys.length)]
      exact List.cons.injEq _ _ _ _
    have e4 : decide (xs.drop i = ys.drop i) = decide (xs[i] = ys[i] ∧ xs.drop (i + 1) = ys.drop (i + 1)) := by simp only [e3]
    rw [e4]
    by_cases h : xs[i] = ys[i]
    · refine evpos h ?_
      have := ih (i + 1) (by omega)
      rw [show decide (xs[i] = ys[i] ∧ xs.drop (i + 1) = ys.drop (i + 1)) = decide (xs.drop (i + 1) = ys.drop (i + 1)) by simp only [h, true_and]]
      exact this
    · refine evneg h (evnow ?_)
      simp only [h, false_and, decide_false]
theorem ev_eqInt64S (xs ys : List Int) (hb : xs.length ≤ 1152921504606846976) (hc : ys.length ≤ 1152921504606846976) : Ev (fun k => laws_eqInt64S.f k xs ys) (decide (xs = ys)) := by
  unfold laws_eqInt64S.f
  by_cases h : xs.length = ys.length
  · refine evpos (by omega) ?_
    have := ev_eq_l0 xs ys h hb xs.length 0 (by omega)
    simpa using this
  · refine evneg (by omega) (evnow ?_)
    rw [eq_comm, decide_eq_false_iff_not]
    intro e; exact h (by rw [e])
theorem ev_eqTree (xs ys : List Int) (hb : xs.length ≤ 1152921504606846976) (hc : ys.length ≤ 1152921504606846976) : Ev (fun k => laws_eqTree.f k xs ys) (decide (xs = ys)) := by
  unfold laws_eqTree.f
  refine Ev.bind (ev_eqInt64S xs ys hb hc) ?_
  by_cases h : xs = ys
  · rw [decide_eq_true h]; exact evpos rfl (Ev.now _)
  · rw [decide_eq_false h]; exact evneg (by simp) (Ev.now _)
theorem ev_to_l0 (xs : List Int) (hb : xs.length ≤ 35184372088832) : ∀ (n i : Nat) (ys : List Int), i + n = xs.length → ys.length = xs.length → ys.take i = xs.take i →
    Ev (fun k => laws_toInt64S.l0 k xs ys (i : Nat)) xs := by
  intro n
  induction n with
  | zero =>
    intro i ys hi hy ht
    refine Ev_succ ?_
    simp only [laws_toInt64S.l0]
    refine evneg (by omega) (evnow ?_)
    rwa [List.take_of_length_le (by omega), List.take_of_length_le (by omega)] at ht
  | succ n ih =>
    intro i ys hi hy ht
    refine Ev_succ ?_
    simp only [laws_toInt64S.l0]
    refine evpos (by omega) (evpos (by omega) (evpos (by omega) ?_))
    have e : wrap64 ((i : Int) + 1) = ((i + 1 : Nat) : Int) := by rw [Tr.wrap_id (by omega) (by omega)]; omega
    rw [e, Tr.rd_getElem (by omega : i < xs.length), Int.toNat_natCast]
    refine ih (i + 1) _ (by omega) (by simp [hy]) ?_
    rw [List.take_succ_eq_append_getElem (by simp; omega), List.take_succ_eq_append_getElem (by omega)]
    simp [List.take_set_of_le, ht]
theorem ev_toInt64S (xs : List Int) (hb : xs.length ≤ 35184372088832) : Ev (fun k => laws_toInt64S.f k xs) xs := by
  unfold laws_toInt64S.f
  refine evpos (by omega) (evpos (by omega) ?_)
  have := ev_to_l0 xs hb xs.length 0 (List.replicate xs.length 0) (by omega) (by simp) (by simp)
  simpa using this
/-- The numbers m, m + 1, .. -/
def up (m : Int) : Nat → List Int
  | 0 => []
  | n + 1 => m :: up (m + 1) n
theorem up_len (n : Nat) : ∀ m, (up m n).length = n := by
  induction n with
  | zero => intro m; rfl
  | succ n ih => intro m; simp [up, ih]
theorem up_get (n : Nat) : ∀ (m : Int) (i : Nat) (h : i < (up m n).length), (up m n)[i] = m + i := by
  induction n with
  | zero => intro m i h; simp [up] at h
  | succ n ih =>
    intro m i h
    cases i with
    | zero => simp [up]
    | succ i => simp only [up, List.getElem_cons_succ, ih]; omega
theorem ev_mark_l0 (a : Int) (N : Nat) (h0 : 0 ≤ a) (h1 : a + N ≤ 1152921504606846976) : ∀ (n i : Nat) (xs : List Int), i + n = N → xs.length = N → xs.take i = (up a N).take i →
    Ev (fun k => laws_markInt64S.l0 k xs (a + i) (i : Nat)) (a + N, up a N) := by
  intro n
  induction n with
  | zero =>
    intro i xs hi hy ht
    refine Ev_succ ?_
    simp only [laws_markInt64S.l0]
    refine evneg (by omega) (evnow ?_)
    rw [List.take_of_length_le (by omega), List.take_of_length_le (by rw [up_len]; omega)] at ht
    rw [ht]
    have : i = N := by omega
    subst this; rfl
  | succ n ih =>
    intro i xs hi hy ht
    refine Ev_succ ?_
    simp only [laws_markInt64S.l0]
    refine evpos (by omega) (evpos (by omega) ?_)
    have e : wrap64 ((i : Int) + 1) = ((i + 1 : Nat) : Int) := by rw [Tr.wrap_id (by omega) (by omega)]; omega
    have e2 : wrap64 (a + (i : Int) + 1) = a + ((i + 1 : Nat) : Int) := by rw [Tr.wrap_id (by omega) (by omega)]; omega
    rw [e, e2, Int.toNat_natCast]
    refine ih (i + 1) _ (by omega) (by simp [hy]) ?_
    rw [List.take_succ_eq_append_getElem (by simp; omega), List.take_succ_eq_append_getElem (by rw [up_len]; omega), up_get]
    simp [List.take_set_of_le, ht]
theorem ev_markInt64S (xs : List Int) (a : Int) (h0 : 0 ≤ a) (h1 : a + xs.length ≤ 1152921504606846976) : Ev (fun k => laws_markInt64S.f k xs a) (a + xs.length, up a xs.length) := by
  unfold laws_markInt64S.f
  have := ev_mark_l0 a xs.length h0 h1 xs.length 0 xs (by omega) rfl (by simp)
  simpa using this
theorem ev_held_l0 (a : Int) (N : Nat) (h0 : 0 ≤ a) (h1 : a + N ≤ 1152921504606846976) : ∀ (n i : Nat), i + n = N →
    Ev (fun k => laws_heldInt64S.l0 k (up a N) (a + i) (i : Nat)) (a + N) := by
  intro n
  induction n with
  | zero =>
    intro i hi
    refine Ev_succ ?_
    simp only [laws_heldInt64S.l0, up_len]
    refine evneg (by omega) (evnow ?_)
    omega
  | succ n ih =>
    intro i hi
    refine Ev_succ ?_
    simp only [laws_heldInt64S.l0, up_len]
    have e : wrap64 ((i : Int) + 1) = ((i + 1 : Nat) : Int) := by rw [Tr.wrap_id (by omega) (by omega)]; omega
    have e2 : wrap64 (a + (i : Int) + 1) = a + ((i + 1 : Nat) : Int) := by rw [Tr.wrap_id (by omega) (by omega)]; omega
    have e3 : rd (up a N) (i : Int) = a + i := by rw [Tr.rd_getElem (by rw [up_len]; omega), up_get]
    refine evpos (by omega) (evpos (by omega) (evpos e3 ?_))
    rw [e, e2]
    exact ih (i + 1) (by omega)
theorem ev_heldInt64S (N : Nat) (a : Int) (h0 : 0 ≤ a) (h1 : a + N ≤ 1152921504606846976) : Ev (fun k => laws_heldInt64S.f k (up a N) a) (a + N) := by
  unfold laws_heldInt64S.f
  have := ev_held_l0 a N h0 h1 N 0 (by omega)
  simpa using this
theorem ev_markTree (xs : List Int) (a : Int) (h0 : 0 ≤ a) (h1 : a + xs.length ≤ 1152921504606846976) : Ev (fun k => laws_markTree.f k xs a) (a + xs.length, up a xs.length) := by
  unfold laws_markTree.f
  exact Ev.bind (ev_markInt64S xs a h0 h1) (evnow rfl)
theorem ev_heldTree (N : Nat) (a : Int) (h0 : 0 ≤ a) (h1 : a + N ≤ 1152921504606846976) : Ev (fun k => laws_heldTree.f k (up a N) a) (a + N) := by
  unfold laws_heldTree.f
  refine Ev.bind (ev_heldInt64S N a h0 h1) ?_
  exact evneg (by omega) (Ev.now _)
theorem l01In_eq (a b c : Int) : spec_l01In.f a b c = some (decide (b ≤ a ∧ a ≤ c)) := by
  unfold spec_l01In.f
  by_cases h : a ≥ b
  · rw [if_pos h]; congr 1; simp; omega
  · rw [if_neg h]; congr 1; symm; simp; omega
theorem deg_range {d : List Int} {t : Tr.F} (h : Tr.Tree d t) {v : Nat} (hv : v < t.size) : 0 ≤ rd d (v : Int) ∧ rd d (v : Int) ≤ 24 := by
  have h1 := h.deg hv
  have h2 := h.fits hv
  have h3 := Tr.F.len_le (t.sub v)
  have h4 := h.few
  omega
def takeOutL (d : List Int) (t : Tr.F) (v : Nat) : List Int := (d.take v ++ d.drop (v + 1)).set (t.par 0 (-1) v).toNat (rd d (t.par 0 (-1) v) + rd d (v : Int) - 1)
theorem rd_take {d : List Int} {v p : Nat} (h : p < v) (hv : v ≤ d.length) : rd (d.take v) (p : Int) = rd d (p : Int) := by
  have e : rd d (p : Int) = rd (d.take v ++ d.drop v) (p : Int) := by rw [List.take_append_drop]
  rw [e, Tr.rd_left _ _ _ (by omega) (by simp; omega)]
def putAt (t : Tr.F) (p : Nat) (i : Int) : Int := if i < ((t.sub p).len : Int) then rd ((t.sub p).roots (p + 1)) i else ((p + 1 + (t.sub p).size : Nat) : Int)
theorem putAt_range {d : List Int} {t : Tr.F} (h : Tr.Tree d t) {p : Nat} (hp : p < t.size) {i : Int} (h0 : 0 ≤ i) : ∃ a : Nat, putAt t p i = (a : Int) ∧ p + 1 ≤ a ∧ a ≤ t.size := by
  have hf := h.fits hp
  unfold putAt
  by_cases hi : i < ((t.sub p).len : Int)
  · rw [if_pos hi]
    have hl := Tr.F.roots_len (t.sub p) (p + 1)
    have hm := Tr.rd_mem (l := (t.sub p).roots (p + 1)) h0 (by omega)
    have hr := Tr.F.roots_range _ _ _ hm
    obtain ⟨a, ha⟩ := Int.eq_ofNat_of_zero_le (show 0 ≤ rd ((t.sub p).roots (p + 1)) i by omega)
    exact ⟨a, ha, by omega, by omega⟩
  · rw [if_neg hi]
    exact ⟨_, rfl, by omega, by omega⟩
def putInL (d : List Int) (p a : Nat) (k : Int) : List Int := (d.set p (rd d (p : Int) + 1 - k)).take a ++ [k] ++ (d.set p (rd d (p : Int) + 1 - k)).drop a
theorem putInL_eq {d : List Int} {p a : Nat} (k : Int) (hp : p < a) (ha : a ≤ d.length) : (d.take a ++ [k] ++ d.drop a).set p (rd d (p : Int) + 1 - k) = putInL d p a k := by
  unfold putInL
  rw [List.take_set, List.drop_set_of_lt (by omega), List.append_assoc, List.set_append_left _ _ (by simp; omega), List.append_assoc]
theorem putInL_len {d : List Int} {p a : Nat} {k : Int} (ha : a ≤ d.length) : (putInL d p a k).length = d.length + 1 := by
  unfold putInL; simp; omega
theorem gt_kf : ∀ (xs p : List Int) (K : List (List Int)), Gt.Kids K p → (Gt.ok xs p.length = true → ∃ K', impl_GrownTree.kf xs p.length K = some K' ∧ Gt.Kids K' (p ++ xs)) ∧ (Gt.ok xs p.length = false → impl_GrownTree.kf xs p.length K = none) := by
  intro xs
  induction xs with
  | nil => intro p K h; exact ⟨fun _ => ⟨K, rfl, by simpa using h⟩, fun h => by cases h⟩
  | cons x xs ih =>
    intro p K h
    rw [impl_GrownTree.kf, Gt.ok]
    by_cases hx : 0 ≤ x ∧ x ≤ (p.length : Int)
    · have h2 := ih (p ++ [x]) _ (Gt.kids_snoc h hx.1 hx.2)
      rw [decide_eq_true hx, Bool.true_and]
      rw [if_neg (show ¬ (x < 0 ∨ x > (p.length : Int)) by omega)]
      simpa [List.append_assoc] using h2
    · rw [decide_eq_false hx, Bool.false_and]
      rw [if_pos (show x < 0 ∨ x > (p.length : Int) by omega)]
      exact ⟨fun h => (by cases h), fun _ => rfl⟩
theorem gt_gl {q : List Int} {f : Int → List Int × List Int → Option (List Int × List Int)} {m n : Nat} : ∀ (cs T G : List Int),
    (∀ c ∈ cs, ∀ T G : List Int, G.length = n → T.length + (Gt.wd q m c).length ≤ 1000 → f c (T, G) = some (T ++ Gt.wd q m c, Gt.place T.length (Gt.wl q m c) G)) → G.length = n → T.length + (cs.flatMap (Gt.wd q m)).length ≤ 1000 →
    Gw.gl f cs (T, G) = some (T ++ cs.flatMap (Gt.wd q m), Gt.place T.length (cs.flatMap (Gt.wl q m)) G) := by
  intro cs
  induction cs with
  | nil => intro T G _ _ _; simp [Gw.gl, Gt.place]
  | cons c cs ih =>
    intro T G hf hG hT
    rw [List.flatMap_cons, List.length_append] at hT
    rw [Gw.gl, hf c (by simp) T G hG (by omega), Option.bind_some, ih _ _ (fun y hy => hf y (by simp [hy])) (by rw [Gt.place_len]; exact hG) (by rw [List.length_append]; omega), List.flatMap_cons, List.flatMap_cons, Gt.place_append, List.append_assoc, List.length_append, Gt.wd_len]
theorem gt_gw {K : List (List Int)} {q : List Int} (hq : Gt.Grows q) (hK : Gt.Kids K q) (hn : q.length ≤ 1000) : ∀ (m : Nat) (l : Int) (T G : List Int), 0 ≤ l → l ≤ (q.length : Int) → (q.length : Int) - l < m → G.length = q.length + 1 → T.length + (Gt.wd q m l).length ≤ 1000 →
    Gw.gw K m l (T, G) = some (T ++ Gt.wd q m l, Gt.place T.length (Gt.wl q m l) G) := by
  intro m
  induction m with
  | zero => intro l T G h0 h1 h2 h3 h4; omega
  | succ m ih =>
    intro l T G h0 h1 h2 h3 h4
    have hk := hK.2 l.toNat
    rw [Int.toNat_of_nonneg h0] at hk
    have hc := Gt.ch_len_le l q 0
    have hKl := hK.1
    rw [Gt.wd, List.length_cons] at h4
    rw [Gw.gw, hk, if_pos ⟨h0, by omega, by dsimp only; omega, by dsimp only; omega, by omega⟩]
    dsimp only
    rw [gt_gl (q := q) (m := m) (n := q.length + 1) _ _ _ (fun c hcm T G hG hT => by have h5 := Gt.ch_kid hq hcm; exact ih c T G (by omega) (by omega) (by omega) hG hT) (by rw [List.length_set]; exact h3) (by rw [List.length_append, List.length_singleton]; omega)]
    rw [Gt.wd, Gt.wl, Gt.place, List.append_assoc, List.length_append, List.length_singleton]
    rfl
theorem ev_l09Walk_l0 (q : List Int) (l : Int) (m : Nat) (hn : q.length ≤ 1000) (hf : ∀ c ∈ Gt.ch q 0 l, Ev (fun k => spec_l09Walk.f k q c) (Gt.wd q m c, Gt.wl q m c)) : ∀ (xs : List Int) (i c : Nat) (D L : List Int), q.drop i = xs → i + xs.length = q.length → c ≤ i → D.length + ((Gt.ch xs i l).flatMap (Gt.wd q m)).length ≤ 1000000000 → L.length + ((Gt.ch xs i l).flatMap (Gt.wl q m)).length ≤ 1000000000 → (∀ c ∈ Gt.ch xs i l, c ∈ Gt.ch q 0 l) →
    Ev (fun k => spec_l09Walk.l0 k q l ((c : Int) :: D) L ((i + 1 : Nat) : Int)) ((((c + (Gt.ch xs i l).length : Nat) : Int)) :: (D ++ (Gt.ch xs i l).flatMap (Gt.wd q m)), L ++ (Gt.ch xs i l).flatMap (Gt.wl q m)) := by
  intro xs
  induction xs with
  | nil =>
    intro i c D L hd hi hc hD hL hs
    refine Ev_succ ?_
    simp only [spec_l09Walk.l0]
    simp only [List.length_nil] at hi
    refine evneg (by omega) (evnow ?_)
    simp [Gt.ch]
  | cons x xs ih =>
    intro i c D L hd hi hc hD hL hs
    rw [List.length_cons] at hi
    have hi2 : i < q.length := by omega
    have hx : q[i] = x ∧ q.drop (i + 1) = xs := by
      rw [List.drop_eq_getElem_cons hi2] at hd
      exact ⟨(List.cons.inj hd).1, (List.cons.inj hd).2⟩
    have e1 : wrap64 (((i + 1 : Nat) : Int) - 1) = (i : Int) := by rw [Tr.wrap_id (by omega) (by omega)]; omega
    have e2 : wrap64 (((i + 1 : Nat) : Int) + 1) = ((i + 1 + 1 : Nat) : Int) := by rw [Tr.wrap_id (by omega) (by omega)]; omega
    refine Ev_succ ?_
    simp only [spec_l09Walk.l0, e1, e2]
    clear e1 e2
    refine evpos (by omega) (evpos (by omega) (evpos (by omega) ?_))
    rw [Tr.rd_getElem hi2, hx.1]
    rw [Gt.ch] at hD hL hs ⊢
    by_cases hxl : x = l
    · rw [if_pos hxl] at hD hL hs ⊢
      rw [List.flatMap_cons, List.length_append] at hD hL
      refine evpos hxl (evpos (by rw [List.length_cons]; omega) (evsome ?_))
      have e3 : ((c : Int) :: D).set (0 : Int).toNat (wrap64 (rd ((c : Int) :: D) 0 + 1)) = ((c + 1 : Nat) : Int) :: D := by
        rw [Tr.rd_cons0, Tr.wrap_succ (by omega)]; rfl
      rw [e3]
      refine Ev.bind (hf _ (hs _ (List.mem_cons_self ..))) ?_
      dsimp only
      refine evpos (by rw [List.length_cons]; omega) (evpos (by omega) ?_)
      rw [List.cons_append]
      have h := ih (i + 1) (c + 1) (D ++ Gt.wd q m ((i + 1 : Nat) : Int)) (L ++ Gt.wl q m ((i + 1 : Nat) : Int)) hx.2 (by omega) (by omega) (by rw [List.length_append]; omega) (by rw [List.length_append]; omega) (fun c hc => hs c (List.mem_cons_of_mem _ hc))
      rw [List.append_assoc, List.append_assoc] at h
      rw [List.length_cons, List.flatMap_cons, List.flatMap_cons, show c + ((Gt.ch xs (i + 1) l).length + 1) = c + 1 + (Gt.ch xs (i + 1) l).length by omega]
      exact h
    · rw [if_neg hxl] at hD hL hs ⊢
      refine evneg hxl ?_
      exact ih (i + 1) c D L hx.2 (by omega) (by omega) hD hL hs
theorem ev_l09Walk (q : List Int) (hq : Gt.Grows q) (hn : q.length ≤ 23) : ∀ (m : Nat) (l : Int), 0 ≤ l → l ≤ (q.length : Int) → (q.length : Int) - l < m → Ev (fun k => spec_l09Walk.f k q l) (Gt.wd q m l, Gt.wl q m l) := by
  intro m
  induction m with
  | zero => intro l h0 h1 h2; omega
  | succ m ih =>
    intro l h0 h1 h2
    refine Ev_succ ?_
    simp only [spec_l09Walk.f]
    have hl := Gt.wl_le hq (m + 1) l h0
    have hl2 : 2 ^ (q.length - l.toNat) ≤ 2 ^ 23 := Nat.pow_le_pow_right (by omega) (by omega)
    have hd := Gt.wd_len q (m + 1) l
    rw [Gt.wl, List.length_cons] at hl
    rw [Gt.wd, Gt.wl, List.length_cons, List.length_cons] at hd
    have h := ev_l09Walk_l0 q l m (by omega) (fun c hc => by have h5 := Gt.ch_kid hq hc; exact ih c (by omega) (by omega) (by omega)) q 0 0 [] [l] rfl (by omega) (by omega) (by rw [List.length_nil]; omega) (by rw [List.length_singleton]; omega) (fun _ h => h)
    simpa [Gt.wd, Gt.wl] using h
theorem ev_GrownTree_l1 (T L : List Int) (hL : L.length ≤ 1000000) : ∀ (xs : List Int) (i : Nat) (G : List Int), L.drop i = xs → i + xs.length = L.length → (∀ x ∈ xs, 0 ≤ x ∧ x < (G.length : Int)) → Ev (fun k => spec_GrownTree.l1 k T L G (i : Int)) (T, Gt.place i xs G, 0) := by
  intro xs
  induction xs with
  | nil =>
    intro i G hd hi h
    simp only [List.length_nil] at hi
    refine Ev_succ ?_
    simp only [spec_GrownTree.l1]
    exact evneg (by omega) (Ev.now _)
  | cons x xs ih =>
    intro i G hd hi h
    rw [List.length_cons] at hi
    have hi2 : i < L.length := by omega
    have hx : L[i] = x ∧ L.drop (i + 1) = xs := by
      rw [List.drop_eq_getElem_cons hi2] at hd
      exact ⟨(List.cons.inj hd).1, (List.cons.inj hd).2⟩
    have h1 := h x (List.mem_cons_self ..)
    refine Ev_succ ?_
    simp only [spec_GrownTree.l1]
    rw [Tr.rd_getElem hi2, hx.1, Tr.wrap_succ (by omega)]
    refine evpos (by omega) (evpos (by omega) (evpos (by omega) (evpos (by omega) ?_)))
    rw [Gt.place]
    exact ih (i + 1) _ hx.2 (by omega) (fun y hy => by rw [List.length_set]; exact h y (List.mem_cons_of_mem _ hy))
theorem ev_spec_GrownTree_l0 (q : List Int) (hn : q.length ≤ 23) (r : List Int × List Int × Int) (hr : Gt.ok q 0 = true → Ev (fun k => (spec_l09Walk.f k q 0).bind fun bt125 => (if 0 ≤ (bt125.2.length : Int) then (if ((bt125.2.length : Int) : Int).toNat ≤ 35184372088832 then (spec_GrownTree.l1 k bt125.1 bt125.2 (List.replicate ((bt125.2.length : Int) : Int).toNat 0) 0) else (none)) else (none))) r) (hr2 : Gt.ok q 0 = false → r = ([], [], 2)) :
    ∀ (xs : List Int) (i : Nat), q.drop i = xs → i + xs.length = q.length → Gt.ok q 0 = Gt.ok xs i → Ev (fun k => spec_GrownTree.l0 k q (i : Int)) r := by
  intro xs
  induction xs with
  | nil =>
    intro i hd hi h
    simp only [List.length_nil] at hi
    refine Ev_succ ?_
    simp only [spec_GrownTree.l0]
    exact evneg (by omega) (hr (by rw [h]; rfl))
  | cons x xs ih =>
    intro i hd hi h
    rw [List.length_cons] at hi
    have hi2 : i < q.length := by omega
    have hx : q[i] = x ∧ q.drop (i + 1) = xs := by
      rw [List.drop_eq_getElem_cons hi2] at hd
      exact ⟨(List.cons.inj hd).1, (List.cons.inj hd).2⟩
    refine Ev_succ ?_
    simp only [spec_GrownTree.l0]
    rw [Tr.rd_getElem hi2, hx.1, Tr.wrap_succ (by omega), l01In_eq]
    refine evpos (by omega) (evpos (by omega) (evsome ?_))
    rw [Gt.ok] at h
    by_cases hc : 0 ≤ x ∧ x ≤ (i : Int)
    · rw [decide_eq_true hc] at h ⊢
      rw [Bool.true_and] at h
      exact evpos rfl (ih (i + 1) hx.2 (by omega) h)
    · rw [decide_eq_false hc] at h ⊢
      rw [Bool.false_and] at h
      rw [hr2 h]
      exact evneg (by simp) (Ev.now _)
theorem ev_GrownTree (l0 : List Int) : ∃ r : List Int × List Int × Int, Ev (fun k => spec_GrownTree.f k l0) r ∧ Ev (fun k => impl_GrownTree.f k l0) r ∧ (r.1.length ≤ 1000 ∧ r.2.1.length ≤ 1000) := by
  by_cases hn : (l0.length : Int) > 23
  · refine ⟨([], [], 2), ?_, ?_, by simp⟩
    · unfold spec_GrownTree.f; exact evpos hn (Ev.now _)
    · unfold impl_GrownTree.f; exact evpos hn (Ev.now _)
  have hn1 : l0.length ≤ 23 := by omega
  have hk0 : Gt.Kids [[]] ([] : List Int) := ⟨rfl, fun j => by cases j <;> rfl⟩
  have hkf := gt_kf l0 [] [[]] hk0
  cases hok : Gt.ok l0 0 with
  | false =>
    refine ⟨([], [], 2), ?_, ?_, by simp⟩
    · unfold spec_GrownTree.f
      exact evneg hn (ev_spec_GrownTree_l0 l0 hn1 _ (fun h => by rw [hok] at h; cases h) (fun _ => rfl) l0 0 rfl (by omega) rfl)
    · unfold impl_GrownTree.f
      refine evneg hn ?_
      rw [show impl_GrownTree.kf l0 0 [[]] = none from hkf.2 hok]
      exact Ev.now _
  | true =>
    have hq := Gt.ok_grows hok
    have hlen := Gt.wl_len hq (l0.length + 1) (by omega)
    have hdlen := Gt.wd_len l0 (l0.length + 1) 0
    refine ⟨(Gt.wd l0 (l0.length + 1) 0, Gt.place 0 (Gt.wl l0 (l0.length + 1) 0) (List.replicate (l0.length + 1) 0), 0), ?_, ?_, ?_⟩
    · unfold spec_GrownTree.f
      refine evneg hn (ev_spec_GrownTree_l0 l0 hn1 _ (fun _ => ?_) (fun h => by rw [hok] at h; cases h) l0 0 rfl (by omega) rfl)
      refine Ev.bind (ev_l09Walk l0 hq hn1 (l0.length + 1) 0 (by omega) (by omega) (by omega)) ?_
      dsimp only
      rw [hlen]
      refine evpos (by omega) (evpos (by omega) ?_)
      rw [Int.toNat_natCast]
      exact ev_GrownTree_l1 _ _ (by omega) _ 0 _ rfl (by omega) (fun x hx => by have := Gt.wl_mem hq _ 0 x (by omega) hx; rw [List.length_replicate]; omega)
    · unfold impl_GrownTree.f
      refine evneg hn ?_
      obtain ⟨K, h1, h2⟩ := hkf.1 hok
      rw [show impl_GrownTree.kf l0 0 [[]] = some K from h1]
      rw [List.nil_append] at h2
      refine ⟨l0.length + 1, fun k hk => ?_⟩
      have hf := Gt.fuel hq k (l0.length + 1) 0 (by omega) (by omega) (by omega)
      have h3 := gt_gw hq h2 (by omega) k 0 [] (List.replicate K.length 0) (by omega) (by omega) (by omega) (by rw [List.length_replicate]; exact h2.1) (by rw [hf.2, List.length_nil]; omega)
      show ((Gw.gw K k 0 ([], List.replicate K.length 0)).bind fun s => some (s.1, s.2, 0)) = _
      rw [h3, hf.1, hf.2, h2.1]
      rfl
    · dsimp only
      rw [Gt.place_len, List.length_replicate]
      omega
theorem pure_FnExactGrownTree (l0 : List Int) (hl0 : l0.length ≤ maxLen) (_ : ∀ x ∈ l0, (Lit.int .i64 x).wf = true) : ∃ k, laws_FnExactGrownTree.f k l0 = some true := by
  unfold maxLen at hl0
  refine Ev.rounds ?_
  unfold laws_FnExactGrownTree.f
  by_cases hs0 : (l0.length : Int) > 1048576
  · exact evpos hs0 (Ev.now _)
  refine evneg hs0 ?_
  obtain ⟨r, hq, hi, hb⟩ := ev_GrownTree l0
  repeat first
    | exact Ev.now _
    | refine Ev.bind hq ?_
    | refine Ev.bind hi ?_
    | refine Ev.bind (ev_toInt64S l0 (by omega)) ?_
    | refine Ev.bind (ev_eqInt64S l0 l0 (by omega) (by omega)) ?_
    | refine Ev.bind (ev_markInt64S l0 _ (by first | omega | simp) (by first | omega | (simp; omega))) ?_
    | refine Ev.bind (ev_eqTree _ _ (by omega) (by omega)) ?_
    | refine Ev.bind (ev_markTree _ _ (by first | omega | simp) (by first | omega | (simp; omega))) ?_
    | refine Ev.bind (ev_heldTree _ _ (by first | omega | simp) (by first | omega | (simp; omega))) ?_
    | refine Ev.bind (ev_eqInt64S _ _ (by omega) (by omega)) ?_
    | refine Ev.bind (ev_markInt64S _ _ (by first | omega | simp) (by first | omega | (simp; omega))) ?_
    | refine Ev.bind (ev_heldInt64S _ _ (by first | omega | simp) (by first | omega | (simp; omega))) ?_
    | (refine evpos ?_ ?_; first | rfl | (simp <;> fail))
    | (refine evneg ?_ ?_; first | (simp <;> fail) | (simp <;> omega))
end Go.Proofs.Yteangdgmokkjbaa.QFnExactGrownTree
