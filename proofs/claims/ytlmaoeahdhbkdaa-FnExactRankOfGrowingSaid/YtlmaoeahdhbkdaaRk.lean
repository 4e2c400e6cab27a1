/- The numbers of ways to go on from a beginning: what is left is whole subtrees, and the sizes divide. Plain mathematics, no program in sight. -/
import Derived.Test.YtlmaoeahdhbkdaaNx
import Derived.Test.YtlmaoeahdhbkdaaCt
namespace Go.Proofs.Ytlmaoeahdhbkdaa.Tr
open Go.RowKit Go.Proofs.YtlmaoeahdhbkdaaW.PrintWords
set_option linter.unusedSimpArgs false
set_option linter.unusedVariables false

/-- The sizes of the subtrees of the nodes that un tells, in preorder. -/
def F.unm (un : Nat → Bool) : F → Nat → List Nat
  | .nil, _ => []
  | .cons b n, p => (if un p = true then [1 + b.size] else []) ++ (F.unm un b (p + 1) ++ F.unm un n (p + 1 + b.size))
theorem range_split (a b : Nat) : List.range (1 + a + b) = 0 :: ((List.range a).map (fun v => 1 + v) ++ (List.range b).map (fun v => 1 + a + v)) := by
  rw [List.range_add, show 1 + a = a + 1 by omega, List.range_succ_eq_map, List.cons_append]
  congr 2
  apply List.map_congr_left
  intro v _; omega
theorem F.unm_eq (un : Nat → Bool) : ∀ (f : F) (p : Nat), f.unm un p = ((List.range f.size).filter (fun v => un (p + v))).map (fun v => 1 + (f.sub v).size) := by
  intro f
  induction f with
  | nil => intro p; rfl
  | cons b n hb hn =>
    intro p
    rw [F.unm, hb, hn, show (F.cons b n).size = 1 + b.size + n.size from rfl, range_split, List.filter_cons]
    have e1 : ((List.range b.size).filter (fun v => un (p + 1 + v))).map (fun v => 1 + (b.sub v).size) = (((List.range b.size).map (fun v => 1 + v)).filter (fun v => un (p + v))).map (fun v => 1 + ((F.cons b n).sub v).size) := by
      rw [List.filter_map, List.map_map]
      have e : ((fun v => un (p + v)) ∘ fun v => 1 + v) = (fun v => un (p + 1 + v)) := by funext v; simp [Function.comp, Nat.add_assoc]
      rw [e]
      apply List.map_congr_left
      intro v hv
      have hv' : v < b.size := by
        have := (List.mem_filter.1 hv).1
        simpa using this
      simp only [Function.comp]
      rw [F.sub_left (by omega) (by omega), show 1 + v - 1 = v by omega]
    have e2 : ((List.range n.size).filter (fun v => un (p + 1 + b.size + v))).map (fun v => 1 + (n.sub v).size) = (((List.range n.size).map (fun v => 1 + b.size + v)).filter (fun v => un (p + v))).map (fun v => 1 + ((F.cons b n).sub v).size) := by
      rw [List.filter_map, List.map_map]
      have e : ((fun v => un (p + v)) ∘ fun v => 1 + b.size + v) = (fun v => un (p + 1 + b.size + v)) := by funext v; simp [Function.comp, Nat.add_assoc]
      rw [e]
      apply List.map_congr_left
      intro v hv
      simp only [Function.comp]
      rw [F.sub_right (by omega), show 1 + b.size + v - 1 - b.size = v by omega]
    rw [e1, e2, List.filter_append]
    by_cases h : un p = true
    · rw [if_pos h, if_pos (by simpa using h), List.map_cons, List.map_append, F.sub_zero]; rfl
    · rw [if_neg h, if_neg (by simpa using h), List.map_append, List.nil_append]
theorem F.unm_all (un : Nat → Bool) : ∀ (f : F) (p : Nat), (∀ c, p ≤ c → c < p + f.size → un c = true) → f.unm un p = f.szs := by
  intro f
  induction f with
  | nil => intro p _; rfl
  | cons b n hb hn =>
    intro p h
    simp only [F.size] at h
    rw [F.unm, if_pos (h p (Nat.le_refl _) (by omega)), hb (p + 1) (fun c h1 h2 => h c (by omega) (by omega)), hn (p + 1 + b.size) (fun c h1 h2 => h c (by omega) (by omega)), F.szs]
    rfl
/-- Where the nodes told are whole subtrees, the product of their sizes divides. -/
theorem F.unm_dvd (un : Nat → Bool) : ∀ (f : F) (p : Nat) (q : Int), q < p → (∀ c e : Nat, p ≤ c → c < p + f.size → f.par p q c = (e : Int) → p ≤ e → un e = true → un c = true) → lprod (f.unm un p) ∣ fact (f.unm un p).length := by
  intro f
  induction f with
  | nil => intro p q _ _; simp [F.unm, lprod, fact]
  | cons b n hb hn =>
    intro p q hq h
    have hpb : ∀ c, p + 1 ≤ c → c < p + 1 + b.size → (F.cons b n).par p q c = b.par (p + 1) p c := by
      intro c h1 h2
      rw [F.par, if_neg (by omega), if_pos (by omega)]
    have hpn : ∀ c, p + 1 + b.size ≤ c → (F.cons b n).par p q c = n.par (p + 1 + b.size) q c := by
      intro c h1
      rw [F.par, if_neg (by omega), if_neg (by omega)]
    simp only [F.size] at h
    have h2 := hn (p + 1 + b.size) q (by omega) (fun c e h1 h2 h3 h4 h5 => h c e (by omega) (by omega) (by rw [hpn c h1]; exact h3) (by omega) h5)
    by_cases hu : un p = true
    · have hall : ∀ c, p + 1 ≤ c → c < p + 1 + b.size → un c = true := by
        intro c
        induction c using Nat.strongRecOn with
        | ind c ih =>
          intro h1 h3
          rcases F.par_range b (p + 1) p c h1 h3 with hr | ⟨hr1, hr2⟩
          · exact h c p (by omega) (by omega) (by rw [hpb c h1 h3]; exact hr) (Nat.le_refl _) hu
          · obtain ⟨e, he⟩ := Int.eq_ofNat_of_zero_le (by omega : 0 ≤ b.par (p + 1) p c)
            rw [he] at hr1 hr2
            exact h c e (by omega) (by omega) (by rw [hpb c h1 h3]; exact he) (by omega) (ih e (by omega) (by omega) (by omega))
      rw [F.unm, if_pos hu, F.unm_all un b (p + 1) hall]
      generalize F.unm un n (p + 1 + b.size) = l at h2 ⊢
      have h1 : (1 + b.size) * b.prod ∣ fact (1 + b.size) := by
        rw [show 1 + b.size = b.size + 1 by omega, show fact (b.size + 1) = (b.size + 1) * fact b.size from rfl]
        exact Nat.mul_dvd_mul_left _ (F.prod_dvd b)
      have h3 := Nat.dvd_trans (Nat.mul_dvd_mul h1 h2) (fact_dvd (1 + b.size) l.length)
      have e1 : lprod ([1 + b.size] ++ (b.szs ++ l)) = (1 + b.size) * b.prod * lprod l := by
        rw [lprod_app, lprod_app, F.szs_prod]; simp [lprod, Nat.mul_assoc]
      have e2 : ([1 + b.size] ++ (b.szs ++ l)).length = 1 + b.size + l.length := by
        rw [List.length_append, List.length_append, F.szs_len]; simp; omega
      rw [e1, e2]; exact h3
    · have h1 := hb (p + 1) p (by omega) (fun c e h1 h2 h3 h4 h5 => h c e (by omega) (by omega) (by rw [hpb c h1 h2]; exact h3) (by omega) h5)
      rw [F.unm, if_neg hu, List.nil_append, lprod_app, List.length_append]
      exact Nat.dvd_trans (Nat.mul_dvd_mul h1 h2) (fact_dvd _ _)
/-- A beginning that has with each node its parent. -/
def closed (t : F) (beg : List Int) : Prop := (∀ c ∈ beg, 0 ≤ c ∧ c < t.size) ∧ ∀ v : Nat, 1 ≤ v → v < t.size → (v : Int) ∈ beg → t.par 0 (-1) v ∈ beg
/-- The nodes left, and their sizes. -/
def left (t : F) (beg : List Int) : List Nat := (List.range t.size).filter (fun v : Nat => decide (¬ (v : Int) ∈ beg))
def leftS (t : F) (beg : List Int) : List Nat := (left t beg).map (fun v => 1 + (t.sub v).size)
/-- The number of ways to go on. -/
def cnt (t : F) (beg : List Int) : Nat := fact (leftS t beg).length / lprod (leftS t beg)
theorem leftS_unm (t : F) (beg : List Int) : leftS t beg = t.unm (fun v : Nat => decide (¬ (v : Int) ∈ beg)) 0 := by
  rw [F.unm_eq]; unfold leftS left; simp only [Nat.zero_add]
theorem left_dvd {d : List Int} {t : F} (h : Tree d t) {beg : List Int} (hc : closed t beg) : lprod (leftS t beg) ∣ fact (leftS t beg).length := by
  rw [leftS_unm]
  refine F.unm_dvd _ t 0 (-1) (by omega) ?_
  intro c e h1 h2 h3 h4 h5
  simp only [decide_eq_true_eq] at h5 ⊢
  intro hm
  by_cases h0 : c = 0
  · subst h0; rw [h.par_zero] at h3; omega
  · have := hc.2 c (by omega) (by omega) hm
    rw [h3] at this
    exact h5 this
theorem closed_nil (t : F) : closed t [] := ⟨by simp, by simp⟩
theorem closed_next {d : List Int} {t : F} (h : Tree d t) {beg : List Int} (hc : closed t beg) {w : Int} (hw : w ∈ nxt t beg) : closed t (beg ++ [w]) := by
  obtain ⟨u, rfl, hu, hn⟩ := nxt_mem.1 hw
  refine ⟨?_, ?_⟩
  · intro c hc'
    simp only [List.mem_append, List.mem_singleton] at hc'
    rcases hc' with hc' | rfl
    · exact hc.1 c hc'
    · omega
  · intro v h1 hv hm
    simp only [List.mem_append, List.mem_singleton] at hm ⊢
    rcases hm with hm | hm
    · exact .inl (hc.2 v h1 hv hm)
    · have : v = u := by omega
      subst this
      unfold canNext at hn
      simp only [Bool.and_eq_true, Bool.or_eq_true, decide_eq_true_eq] at hn
      rcases hn.2 with q | q
      · omega
      · exact .inl q
/-- The beginnings of a growing order are closed, and what comes next is among the next ones. -/
theorem grows_closed {d : List Int} {t : F} (h : Tree d t) {L : List Int} (ho : isOrd t.size L) (hg : growing t L = true) (i : Nat) : closed t (L.take i) := by
  refine ⟨fun c hc => ho.2.2 c (List.mem_of_mem_take hc), fun v h1 hv hm => ?_⟩
  obtain ⟨a, b, hab, hna⟩ := List.eq_append_cons_of_mem hm
  have hL : L = a ++ (v : Int) :: (b ++ L.drop i) := by
    have := List.take_append_drop i L
    rw [hab] at this
    exact this.symm.trans (by simp)
  have := (grows_iff t L []).1 hg a v (b ++ L.drop i) hL
  have hp := h.par_pos h1 hv
  rcases this with q | q
  · simp only [Int.toNat_natCast] at q; omega
  · simp only [Int.toNat_natCast, List.nil_append] at q
    rw [hab]
    exact List.mem_append_left _ q
theorem grows_next {d : List Int} {t : F} (h : Tree d t) {L : List Int} (ho : isOrd t.size L) (hg : growing t L = true) {i : Nat} (hi : i < t.size) : rd L (i : Int) ∈ nxt t (L.take i) := by
  have hil : i < L.length := by rw [ho.1]; exact hi
  have hr := isOrd_rd ho hi
  have hL : L = L.take i ++ rd L (i : Int) :: L.drop (i + 1) := by
    rw [rd_getElem hil, ← List.drop_eq_getElem_cons hil, List.take_append_drop]
  obtain ⟨v, hv⟩ := Int.eq_ofNat_of_zero_le hr.1
  rw [hv] at hr hL ⊢
  refine nxt_mem.2 ⟨v, rfl, by omega, ?_⟩
  have hn : ¬ (v : Int) ∈ L.take i := by
    have h2 := ho.2.1
    rw [hL, List.nodup_append] at h2
    intro hm
    exact h2.2.2 _ (by simpa using hm) (v : Int) (by simp) rfl
  have := (grows_iff t L []).1 hg (L.take i) v (L.drop (i + 1)) hL
  unfold canNext
  rw [decide_eq_true hn, Bool.true_and]
  by_cases h0 : v = 0
  · rw [decide_eq_true h0]; rfl
  · have hp := h.par_pos (by omega : 1 ≤ v) (by omega)
    rcases this with q | q
    · simp only [Int.toNat_natCast] at q; omega
    · simp only [Int.toNat_natCast, List.nil_append] at q
      rw [decide_eq_true q, Bool.or_true]
/-- The nodes that may come next are ascending. -/
theorem nxt_sorted (t : F) (beg : List Int) : (nxt t beg).Pairwise (fun x y => x < y) := by
  unfold nxt nxtTo
  refine List.Pairwise.map _ ?_ ((List.pairwise_lt_range (n := t.size)).filter _)
  intro a b h; omega
/-- The numbers for the smaller ones are added up (as the machine adds). -/
def accIn (t : F) (beg : List Int) (x : Int) : List Int → Int → Int
  | [], a => a
  | w :: l, a => accIn t beg x l (if w < x then wrap64 (a + (cnt t (beg ++ [w]) : Int)) else a)
theorem accIn_ge (t : F) (beg : List Int) (x : Int) : ∀ (l : List Int) (a : Int), (∀ w ∈ l, ¬ w < x) → accIn t beg x l a = a := by
  intro l
  induction l with
  | nil => intro a _; rfl
  | cons w l ih =>
    intro a h
    rw [accIn, if_neg (h w (List.mem_cons_self ..))]
    exact ih a (fun y hy => h y (List.mem_cons_of_mem _ hy))
def rankFrom (t : F) (L : List Int) : Nat → Nat → Int → Int
  | 0, _, a => a
  | m + 1, i, a => rankFrom t L m (i + 1) (accIn t (L.take i) (rd L (i : Int)) (nxt t (L.take i)) a)
end Go.Proofs.Ytlmaoeahdhbkdaa.Tr
