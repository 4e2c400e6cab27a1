/- The order with a rank: the numbers of ways to go on add up over the nodes that may come next. Plain mathematics, no program in sight. -/
import Derived.Test.YtlmaoeahdhbkdabRk
namespace Go.Proofs.Ytlmaoeahdhbkdab.Tr
open Go.RowKit Go.Proofs.YtlmaoeahdhbkdabW.PrintWords
set_option linter.unusedSimpArgs false
set_option linter.unusedVariables false

/-- The sizes of the greatest subtrees of the nodes that un tells. -/
def F.tops (un : Nat → Bool) : F → Nat → List Nat
  | .nil, _ => []
  | .cons b n, p => (if un p = true then [1 + b.size] else F.tops un b (p + 1)) ++ F.tops un n (p + 1 + b.size)
theorem par_left {b n : F} {p : Nat} {q : Int} {c : Nat} (h1 : p + 1 ≤ c) (h2 : c < p + 1 + b.size) : (F.cons b n).par p q c = b.par (p + 1) p c := by
  rw [F.par, if_neg (by omega), if_pos (by omega)]
theorem par_right {b n : F} {p : Nat} {q : Int} {c : Nat} (h1 : p + 1 + b.size ≤ c) : (F.cons b n).par p q c = n.par (p + 1 + b.size) q c := by
  rw [F.par, if_neg (by omega), if_neg (by omega)]
/-- Below a node that un tells all are told. -/
theorem unm_below {un : Nat → Bool} {b n : F} {p : Nat} {q : Int} (h : ∀ c e : Nat, p ≤ c → c < p + (F.cons b n).size → (F.cons b n).par p q c = (e : Int) → p ≤ e → un e = true → un c = true) (hu : un p = true) : ∀ c, p + 1 ≤ c → c < p + 1 + b.size → un c = true := by
  intro c
  simp only [F.size] at h
  induction c using Nat.strongRecOn with
  | ind c ih =>
    intro h1 h3
    rcases F.par_range b (p + 1) p c h1 h3 with hr | ⟨hr1, hr2⟩
    · exact h c p (by omega) (by omega) (by rw [par_left h1 h3]; exact hr) (Nat.le_refl _) hu
    · obtain ⟨e, he⟩ := Int.eq_ofNat_of_zero_le (by omega : 0 ≤ b.par (p + 1) p c)
      rw [he] at hr1 hr2
      exact h c e (by omega) (by omega) (by rw [par_left h1 h3]; exact he) (by omega) (ih e (by omega) (by omega) (by omega))
theorem F.tops_sum (un : Nat → Bool) : ∀ (f : F) (p : Nat) (q : Int), q < p → (∀ c e : Nat, p ≤ c → c < p + f.size → f.par p q c = (e : Int) → p ≤ e → un e = true → un c = true) → (f.tops un p).sum = (f.unm un p).length := by
  intro f
  induction f with
  | nil => intro p q _ _; rfl
  | cons b n hb hn =>
    intro p q hq h
    have h' := h
    simp only [F.size] at h
    have h2 := hn (p + 1 + b.size) q (by omega) (fun c e h1 h2 h3 h4 h5 => h c e (by omega) (by omega) (by rw [par_right h1]; exact h3) (by omega) h5)
    by_cases hu : un p = true
    · rw [F.tops, if_pos hu, F.unm, if_pos hu, F.unm_all un b (p + 1) (unm_below h' hu), List.sum_append, List.length_append, List.length_append, h2, F.szs_len]
      simp; omega
    · have h1 := hb (p + 1) p (by omega) (fun c e h1 h2 h3 h4 h5 => h c e (by omega) (by omega) (by rw [par_left h1 h2]; exact h3) (by omega) h5)
      rw [F.tops, if_neg hu, F.unm, if_neg hu, List.sum_append, List.nil_append, List.length_append, h1, h2]
theorem F.tops_eq (un tp : Nat → Bool) : ∀ (f : F) (p : Nat) (q : Int), q < p → (∀ c e : Nat, p ≤ c → c < p + f.size → f.par p q c = (e : Int) → p ≤ e → un e = true → un c = true) →
    (∀ c, p ≤ c → c < p + f.size → (f.par p q c = q → tp c = true) ∧ (∀ e : Nat, f.par p q c = (e : Int) → p ≤ e → tp c = !un e)) →
    f.tops un p = ((List.range f.size).filter (fun v => un (p + v) && tp (p + v))).map (fun v => 1 + (f.sub v).size) := by
  intro f
  induction f with
  | nil => intro p q _ _ _; rfl
  | cons b n hb hn =>
    intro p q hq h ht
    have h' := h
    simp only [F.size] at h ht
    have h2 := hn (p + 1 + b.size) q (by omega) (fun c e h1 h2 h3 h4 h5 => h c e (by omega) (by omega) (by rw [par_right h1]; exact h3) (by omega) h5)
      (fun c h1 h2 => by
        have := ht c (by omega) (by omega)
        rw [par_right h1] at this
        exact ⟨this.1, fun e h3 h4 => this.2 e h3 (by omega)⟩)
    have e1 : ∀ g : Nat → Bool, ((List.range b.size).filter (fun v => g (p + 1 + v))).map (fun v => 1 + (b.sub v).size) = (((List.range b.size).map (fun v => 1 + v)).filter (fun v => g (p + v))).map (fun v => 1 + ((F.cons b n).sub v).size) := by
      intro g
      rw [List.filter_map, List.map_map]
      have e : ((fun v => g (p + v)) ∘ fun v => 1 + v) = (fun v => g (p + 1 + v)) := by funext v; simp [Function.comp, Nat.add_assoc]
      rw [e]
      apply List.map_congr_left
      intro v hv
      have hv' : v < b.size := by
        have := (List.mem_filter.1 hv).1
        simpa using this
      simp only [Function.comp]
      rw [F.sub_left (by omega) (by omega), show 1 + v - 1 = v by omega]
    have e2 : ∀ g : Nat → Bool, ((List.range n.size).filter (fun v => g (p + 1 + b.size + v))).map (fun v => 1 + (n.sub v).size) = (((List.range n.size).map (fun v => 1 + b.size + v)).filter (fun v => g (p + v))).map (fun v => 1 + ((F.cons b n).sub v).size) := by
      intro g
      rw [List.filter_map, List.map_map]
      have e : ((fun v => g (p + v)) ∘ fun v => 1 + b.size + v) = (fun v => g (p + 1 + b.size + v)) := by funext v; simp [Function.comp, Nat.add_assoc]
      rw [e]
      apply List.map_congr_left
      intro v hv
      simp only [Function.comp]
      rw [F.sub_right (by omega), show 1 + b.size + v - 1 - b.size = v by omega]
    have hp := (ht p (Nat.le_refl _) (by omega)).1 F.par_self
    rw [F.tops, h2, show (F.cons b n).size = 1 + b.size + n.size from rfl, range_split, List.filter_cons, show p + 0 = p from rfl, hp, Bool.and_true, List.filter_append]
    rw [e2 (fun c => un c && tp c)]
    by_cases hu : un p = true
    · have hall := unm_below h' hu
      have e3 : ((List.range b.size).map (fun v => 1 + v)).filter (fun v => un (p + v) && tp (p + v)) = [] := by
        rw [List.filter_eq_nil_iff]
        intro c hc
        simp only [List.mem_map, List.mem_range] at hc
        obtain ⟨v, hv, rfl⟩ := hc
        have q1 := ht (p + (1 + v)) (by omega) (by omega)
        rw [par_left (by omega) (by omega)] at q1
        have q2 : tp (p + (1 + v)) = false := by
          rcases F.par_range b (p + 1) p (p + (1 + v)) (by omega) (by omega) with hr | ⟨hr1, hr2⟩
          · rw [q1.2 p hr (Nat.le_refl _), hu]; rfl
          · obtain ⟨e, he⟩ := Int.eq_ofNat_of_zero_le (by omega : 0 ≤ b.par (p + 1) p (p + (1 + v)))
            rw [he] at hr1 hr2
            rw [q1.2 e he (by omega), hall e (by omega) (by omega)]; rfl
        rw [q2, Bool.and_false]; simp
      rw [if_pos hu, if_pos hu, e3, List.nil_append, List.map_cons, F.sub_zero]
      rfl
    · have h1 := hb (p + 1) p (by omega) (fun c e h1 h2 h3 h4 h5 => h c e (by omega) (by omega) (by rw [par_left h1 h2]; exact h3) (by omega) h5)
        (fun c h1 h2 => by
          have := ht c (by omega) (by omega)
          rw [par_left h1 h2] at this
          refine ⟨fun h3 => ?_, fun e h3 h4 => this.2 e h3 (by omega)⟩
          rw [this.2 p h3 (Nat.le_refl _), Bool.eq_false_iff.2 hu]; rfl)
      rw [if_neg hu, if_neg hu, h1, e1 (fun c => un c && tp c), List.map_append]
/-- The sizes of the nodes that may come next add up to the number of the nodes left. -/
def nxtN (t : F) (beg : List Int) : List Nat := (List.range t.size).filter (canNext t beg)
theorem nxt_sum {d : List Int} {t : F} (h : Tree d t) {beg : List Int} (hc : closed t beg) : ((nxtN t beg).map (fun v => 1 + (t.sub v).size)).sum = (leftS t beg).length := by
  have hup : ∀ c e : Nat, 0 ≤ c → c < 0 + t.size → t.par 0 (-1) c = (e : Int) → 0 ≤ e → decide (¬ (e : Int) ∈ beg) = true → decide (¬ (c : Int) ∈ beg) = true := by
    intro c e h1 h2 h3 h4 h5
    simp only [decide_eq_true_eq] at h5 ⊢
    intro hm
    by_cases h0 : c = 0
    · subst h0; rw [h.par_zero] at h3; omega
    · have := hc.2 c (by omega) (by omega) hm
      rw [h3] at this
      exact h5 this
  have h1 := F.tops_sum (fun v : Nat => decide (¬ (v : Int) ∈ beg)) t 0 (-1) (by omega) hup
  have h2 := F.tops_eq (fun v : Nat => decide (¬ (v : Int) ∈ beg)) (fun v : Nat => decide (v = 0) || decide (t.par 0 (-1) v ∈ beg)) t 0 (-1) (by omega) hup (by
    intro c h3 h4
    refine ⟨fun h5 => ?_, fun e h5 h6 => ?_⟩
    · by_cases h0 : c = 0
      · rw [decide_eq_true h0]; rfl
      · have := h.par_pos (by omega : 1 ≤ c) (by omega)
        omega
    · have h0 : ¬ c = 0 := by
        intro h0; subst h0; rw [h.par_zero] at h5; omega
      rw [decide_eq_false h0, Bool.false_or, h5]
      by_cases hm : (e : Int) ∈ beg
      · rw [decide_eq_true hm, decide_eq_false (by simpa using hm)]; rfl
      · rw [decide_eq_false hm, decide_eq_true hm]; rfl)
  rw [leftS_unm, ← h1, h2]
  simp only [Nat.zero_add]
  rfl
theorem prod_out (f : Nat → Nat) (v : Nat) : ∀ (l : List Nat) (g : Nat → Bool), l.Nodup → v ∈ l → g v = true →
    lprod ((l.filter g).map f) = f v * lprod ((l.filter (fun x => g x && decide (x ≠ v))).map f) ∧ (l.filter g).length = (l.filter (fun x => g x && decide (x ≠ v))).length + 1 := by
  intro l
  induction l with
  | nil => intro g _ h; simp at h
  | cons y l ih =>
    intro g hn hm hg
    rw [List.nodup_cons] at hn
    by_cases hy : y = v
    · subst hy
      have e : l.filter (fun x => g x && decide (x ≠ y)) = l.filter g := by
        apply List.filter_congr
        intro x hx
        have : x ≠ y := fun e => hn.1 (e ▸ hx)
        simp [this]
      rw [List.filter_cons, if_pos hg, List.filter_cons, if_neg (by simp), e]
      exact ⟨rfl, rfl⟩
    · have hm' : v ∈ l := by
        rcases List.mem_cons.1 hm with q | q
        · exact absurd q.symm hy
        · exact q
      obtain ⟨h1, h2⟩ := ih g hn.2 hm' hg
      by_cases hgy : g y = true
      · rw [List.filter_cons, if_pos hgy, List.filter_cons, if_pos (by simp [hgy, hy])]
        simp only [List.map_cons, lprod, List.length_cons, h1, h2]
        exact ⟨by rw [Nat.mul_left_comm], trivial⟩
      · rw [List.filter_cons, if_neg hgy, List.filter_cons, if_neg (by simp [hgy])]
        exact ⟨h1, h2⟩
/-- One node taken: the product without its size. -/
theorem cnt_next {d : List Int} {t : F} (h : Tree d t) {beg : List Int} (hc : closed t beg) {v : Nat} (hv : v ∈ nxtN t beg) : cnt t (beg ++ [(v : Int)]) * lprod (leftS t beg) = fact ((leftS t beg).length - 1) * (1 + (t.sub v).size) := by
  have hvm := List.mem_filter.1 hv
  have hvs : v < t.size := by simpa using hvm.1
  have hcan := hvm.2
  have hnv : ¬ (v : Int) ∈ beg := by
    unfold canNext at hcan
    simp only [Bool.and_eq_true, decide_eq_true_eq] at hcan
    exact hcan.1
  have hw : (v : Int) ∈ nxt t beg := nxt_mem.2 ⟨v, rfl, hvs, hcan⟩
  have hd := left_dvd h (closed_next h hc hw)
  obtain ⟨h1, h2⟩ := prod_out (fun v => 1 + (t.sub v).size) v (List.range t.size) (fun x : Nat => decide (¬ (x : Int) ∈ beg)) List.nodup_range (by simpa using hvs) (by simpa using hnv)
  have e : left t (beg ++ [(v : Int)]) = (List.range t.size).filter (fun x : Nat => decide (¬ (x : Int) ∈ beg) && decide (x ≠ v)) := by
    unfold left
    apply List.filter_congr
    intro x _
    by_cases hx : (x : Int) ∈ beg
    · simp [hx]
    · by_cases hxv : x = v
      · simp [hxv]
      · have : ¬ (x : Int) = (v : Int) := by omega
        simp [hx, hxv, this]
  have e1 : leftS t (beg ++ [(v : Int)]) = ((List.range t.size).filter (fun x : Nat => decide (¬ (x : Int) ∈ beg) && decide (x ≠ v))).map (fun v => 1 + (t.sub v).size) := by unfold leftS; rw [e]
  have e2 : (leftS t beg).length = (leftS t (beg ++ [(v : Int)])).length + 1 := by
    rw [e1]; unfold leftS left; rw [List.length_map, List.length_map]; exact h2
  have e3 : lprod (leftS t beg) = (1 + (t.sub v).size) * lprod (leftS t (beg ++ [(v : Int)])) := by
    rw [e1]; exact h1
  unfold cnt
  rw [e2, Nat.add_sub_cancel, e3]
  generalize leftS t (beg ++ [(v : Int)]) = l at hd ⊢
  rw [Nat.mul_left_comm, Nat.div_mul_cancel hd, Nat.mul_comm]
theorem sum_mul (l : List Nat) (f : Nat → Nat) (c : Nat) : (l.map f).sum * c = (l.map (fun v => f v * c)).sum := by
  induction l with
  | nil => simp
  | cons x l ih => simp only [List.map_cons, List.sum_cons, Nat.add_mul, ih]
theorem mul_sum (l : List Nat) (f : Nat → Nat) (c : Nat) : c * (l.map f).sum = (l.map (fun v => c * f v)).sum := by
  induction l with
  | nil => simp
  | cons x l ih => simp only [List.map_cons, List.sum_cons, Nat.mul_add, ih]
/-- The ways to go on, told apart by the next node. -/
theorem cnt_sum {d : List Int} {t : F} (h : Tree d t) {beg : List Int} (hc : closed t beg) (hl : 1 ≤ (leftS t beg).length) : ((nxtN t beg).map (fun v : Nat => cnt t (beg ++ [(v : Int)]))).sum = cnt t beg := by
  have hpos : 0 < lprod (leftS t beg) := lprod_pos _ (fun x hx => by
    unfold leftS at hx
    simp only [List.mem_map] at hx
    obtain ⟨v, _, rfl⟩ := hx
    omega)
  apply Nat.eq_of_mul_eq_mul_right hpos
  rw [sum_mul]
  have e1 : ((nxtN t beg).map (fun v : Nat => cnt t (beg ++ [(v : Int)]) * lprod (leftS t beg))) = (nxtN t beg).map (fun v => fact ((leftS t beg).length - 1) * (1 + (t.sub v).size)) := by
    apply List.map_congr_left
    intro v hv
    exact cnt_next h hc hv
  rw [e1, ← mul_sum, nxt_sum h hc]
  unfold cnt
  rw [Nat.div_mul_cancel (left_dvd h hc)]
  obtain ⟨m, hm⟩ : ∃ m, (leftS t beg).length = m + 1 := ⟨(leftS t beg).length - 1, by omega⟩
  rw [hm, Nat.add_sub_cancel, Nat.mul_comm]
  rfl
theorem nxt_N (t : F) (beg : List Int) : nxt t beg = (nxtN t beg).map (fun v : Nat => (v : Int)) := rfl
theorem cnt_le {d : List Int} {t : F} (h : Tree d t) (hs : t.size ≤ 20) (beg : List Int) : cnt t beg ≤ 2432902008176640000 := by
  unfold cnt
  have h1 := Nat.div_le_self (fact (leftS t beg).length) (lprod (leftS t beg))
  have h2 : (leftS t beg).length ≤ t.size := by
    unfold leftS left
    rw [List.length_map]
    have := List.length_filter_le (fun v : Nat => decide (¬ (v : Int) ∈ beg)) (List.range t.size)
    simpa using this
  have h3 := fact_le (leftS t beg).length 20 (by omega)
  rw [show fact 20 = 2432902008176640000 by rfl] at h3
  omega
/-- The next node for a rank, and the rank that is left. -/
def pick (t : F) (beg : List Int) : List Int → Int → Int × Int
  | [], a => (a, 0)
  | w :: l, a => if a < (cnt t (beg ++ [w]) : Int) then (a, w) else pick t beg l (a - (cnt t (beg ++ [w]) : Int))
def sumN (t : F) (beg : List Int) (l : List Int) : Nat := (l.map (fun w => cnt t (beg ++ [w]))).sum
theorem pick_mem (t : F) (beg : List Int) : ∀ (l : List Int) (a : Int), 0 ≤ a → a < (sumN t beg l : Int) → (pick t beg l a).2 ∈ l ∧ 0 ≤ (pick t beg l a).1 ∧ (pick t beg l a).1 < (cnt t (beg ++ [(pick t beg l a).2]) : Int) := by
  intro l
  induction l with
  | nil => intro a h0 h1; simp [sumN] at h1; omega
  | cons w l ih =>
    intro a h0 h1
    simp only [sumN, List.map_cons, List.sum_cons] at h1
    unfold pick
    by_cases hlt : a < (cnt t (beg ++ [w]) : Int)
    · rw [if_pos hlt]; exact ⟨List.mem_cons_self .., h0, hlt⟩
    · rw [if_neg hlt]
      have := ih (a - (cnt t (beg ++ [w]) : Int)) (by omega) (by unfold sumN; omega)
      exact ⟨List.mem_cons_of_mem _ this.1, this.2⟩
theorem sumN_nxt {d : List Int} {t : F} (h : Tree d t) {beg : List Int} (hc : closed t beg) (hl : beg.length < t.size) : sumN t beg (nxt t beg) = cnt t beg := by
  rw [sumN, nxt_N, List.map_map]
  refine cnt_sum h hc ?_
  have h1 := nxt_pos h hl
  rw [← nxt_sum h hc]
  rw [nxt_N, List.length_map] at h1
  match hq : nxtN t beg with
  | [] => rw [hq] at h1; simp at h1
  | v :: l => simp only [List.map_cons, List.sum_cons]; omega
def unrank (t : F) : Nat → List Int → Int → List Int
  | 0, o, _ => o
  | m + 1, o, a => unrank t m (o ++ [(pick t o (nxt t o) a).2]) (pick t o (nxt t o) a).1
theorem unrank_len (t : F) : ∀ m o a, (unrank t m o a).length = o.length + m := by
  intro m
  induction m with
  | zero => intro o a; rfl
  | succ m ih => intro o a; rw [unrank, ih]; simp; omega
end Go.Proofs.Ytlmaoeahdhbkdab.Tr
