/- The tidy drawing: points (depth, column), how far a tree is moved, the least and the greatest column of each depth. Plain mathematics, no program in sight. -/
import Derived.Test.YteangdgmokkjbabNd
namespace Go.Proofs.Yteangdgmokkjbab.Td
open Go.RowKit Go.Proofs.YteangdgmokkjbabW.PrintWords Go.Proofs.Yteangdgmokkjbab.Tr
set_option linter.unusedSimpArgs false
set_option linter.unusedVariables false

abbrev Pt := Int × Int
def stp (o : Option Int) (x : Int) : Option Int :=
  match o with
  | none => some x
  | some y => if x > y then some x else some y
def ned1 (p : Pt) : List Pt → Option Int → Option Int
  | [], o => o
  | q :: Q, o => ned1 p Q (if p.1 = q.1 then stp o (p.2 + 2 - q.2) else o)
def ned (Q : List Pt) : List Pt → Option Int → Option Int
  | [], o => o
  | p :: P, o => ned Q P (ned1 p Q o)
def mv (P Q : List Pt) : Int := (ned Q P none).getD 0
def shf (b : Int) (Q : List Pt) : List Pt := Q.map fun q => (q.1, q.2 + b)
def rt (R : List Int) : Int := if R = [] then 0 else (rd R 0 + rd R ((R.length : Int) - 1)) / 2
def tre (s : List Pt × List Int) : List Pt := (0, rt s.2) :: s.1.map fun p => (p.1 + 1, p.2)
def pl : F → List Pt × List Int → List Pt × List Int
  | .nil, s => s
  | .cons b n, s => pl n (s.1 ++ shf (mv s.1 (tre (pl b ([], [])))) (tre (pl b ([], []))), s.2 ++ [rt (pl b ([], [])).2 + mv s.1 (tre (pl b ([], [])))])
/-! ### The greatest of what is needed -/
def Mx (o : Option Int) (S : Int → Prop) : Prop := (o = none ∧ ∀ x, ¬ S x) ∨ ∃ m, o = some m ∧ S m ∧ ∀ x, S x → x ≤ m
theorem Mx.stp {o : Option Int} {S : Int → Prop} (h : Mx o S) (x : Int) : Mx (stp o x) (fun y => S y ∨ y = x) := by
  rcases h with ⟨rfl, h⟩ | ⟨m, rfl, h1, h2⟩
  · exact .inr ⟨x, rfl, .inr rfl, fun y hy => hy.elim (fun h3 => absurd h3 (h y)) (fun h3 => by omega)⟩
  · unfold Td.stp
    by_cases hx : x > m
    · exact .inr ⟨x, by simp [hx], .inr rfl, fun y hy => hy.elim (fun h3 => by have := h2 y h3; omega) (fun h3 => by omega)⟩
    · exact .inr ⟨m, by simp [hx], .inl h1, fun y hy => hy.elim (fun h3 => h2 y h3) (fun h3 => by omega)⟩
theorem Mx.congr {o : Option Int} {S S' : Int → Prop} (h : Mx o S) (hs : ∀ x, S x ↔ S' x) : Mx o S' := by
  rcases h with ⟨h0, h⟩ | ⟨m, h0, h1, h2⟩
  · exact .inl ⟨h0, fun x hx => h x ((hs x).mpr hx)⟩
  · exact .inr ⟨m, h0, (hs m).mp h1, fun x hx => h2 x ((hs x).mpr hx)⟩
theorem Mx.ned1 (p : Pt) : ∀ (Q : List Pt) (o : Option Int) (S : Int → Prop), Mx o S → Mx (ned1 p Q o) (fun y => S y ∨ ∃ q ∈ Q, p.1 = q.1 ∧ y = p.2 + 2 - q.2) := by
  intro Q
  induction Q with
  | nil => intro o S h; exact h.congr (fun x => by simp)
  | cons q Q ih =>
    intro o S h
    rw [Td.ned1]
    by_cases hq : p.1 = q.1
    · rw [if_pos hq]
      refine (ih _ _ (h.stp _)).congr (fun x => ?_)
      constructor
      · rintro ((h1 | h1) | ⟨q', h1, h2⟩)
        · exact .inl h1
        · exact .inr ⟨q, by simp, hq, h1⟩
        · exact .inr ⟨q', by simp [h1], h2⟩
      · rintro (h1 | ⟨q', h1, h2⟩)
        · exact .inl (.inl h1)
        · rcases List.mem_cons.mp h1 with h3 | h3
          · subst h3; exact .inl (.inr h2.2)
          · exact .inr ⟨q', h3, h2⟩
    · rw [if_neg hq]
      refine (ih _ _ h).congr (fun x => ?_)
      constructor
      · rintro (h1 | ⟨q', h1, h2⟩)
        · exact .inl h1
        · exact .inr ⟨q', by simp [h1], h2⟩
      · rintro (h1 | ⟨q', h1, h2⟩)
        · exact .inl h1
        · rcases List.mem_cons.mp h1 with h3 | h3
          · subst h3; exact absurd h2.1 hq
          · exact .inr ⟨q', h3, h2⟩
theorem Mx.ned (Q : List Pt) : ∀ (P : List Pt) (o : Option Int) (S : Int → Prop), Mx o S → Mx (ned Q P o) (fun y => S y ∨ ∃ p ∈ P, ∃ q ∈ Q, p.1 = q.1 ∧ y = p.2 + 2 - q.2) := by
  intro P
  induction P with
  | nil => intro o S h; exact h.congr (fun x => by simp)
  | cons p P ih =>
    intro o S h
    rw [Td.ned]
    refine (ih _ _ (Mx.ned1 p Q o S h)).congr (fun x => ?_)
    constructor
    · rintro ((h1 | h1) | ⟨p', h1, h2⟩)
      · exact .inl h1
      · exact .inr ⟨p, by simp, h1⟩
      · exact .inr ⟨p', by simp [h1], h2⟩
    · rintro (h1 | ⟨p', h1, h2⟩)
      · exact .inl (.inl h1)
      · rcases List.mem_cons.mp h1 with h3 | h3
        · subst h3; exact .inl (.inr h2)
        · exact .inr ⟨p', h3, h2⟩
theorem Mx.none_ : Mx none (fun _ => False) := .inl ⟨rfl, fun _ h => h⟩
theorem Mx.uniq {o o' : Option Int} {S S' : Int → Prop} (h : Mx o S) (h' : Mx o' S') (h1 : ∀ x, S x → ∃ x', S' x' ∧ x ≤ x') (h2 : ∀ x, S' x → S x) : o = o' := by
  rcases h with ⟨rfl, h⟩ | ⟨m, rfl, h3, h4⟩ <;> rcases h' with ⟨rfl, h'⟩ | ⟨m', rfl, h5, h6⟩
  · rfl
  · exact absurd (h2 _ h5) (h _)
  · obtain ⟨x', h7, _⟩ := h1 _ h3
    exact absurd h7 (h' _)
  · obtain ⟨x', h7, h8⟩ := h1 _ h3
    have h9 := h6 _ h7
    have h10 := h4 _ (h2 _ h5)
    congr 1; omega
/-- The same out of the least and the greatest columns of the depths. -/
def nei (hi lo : List Int) : Nat → Nat → Option Int → Option Int
  | 0, _, o => o
  | m + 1, i, o => nei hi lo m (i + 1) (stp o (rd hi (i : Int) + 2 - rd lo (i : Int)))
theorem Mx.nei (hi lo : List Int) : ∀ (m i : Nat) (o : Option Int) (S : Int → Prop), Mx o S → Mx (nei hi lo m i o) (fun y => S y ∨ ∃ j : Nat, i ≤ j ∧ j < i + m ∧ y = rd hi (j : Int) + 2 - rd lo (j : Int)) := by
  intro m
  induction m with
  | zero => intro i o S h; exact h.congr (fun x => ⟨fun h1 => .inl h1, fun h1 => h1.elim id (fun ⟨j, h2, h3, _⟩ => by omega)⟩)
  | succ m ih =>
    intro i o S h
    rw [Td.nei]
    refine (ih _ _ _ (h.stp _)).congr (fun x => ?_)
    constructor
    · rintro ((h1 | h1) | ⟨j, h1, h2, h3⟩)
      · exact .inl h1
      · exact .inr ⟨i, by omega, by omega, h1⟩
      · exact .inr ⟨j, by omega, by omega, h3⟩
    · rintro (h1 | ⟨j, h1, h2, h3⟩)
      · exact .inl (.inl h1)
      · by_cases e : j = i
        · subst e; exact .inl (.inr h3)
        · exact .inr ⟨j, by omega, by omega, h3⟩
/-! ### The least and the greatest column of each depth -/
structure LH (S : Int → Int → Prop) (lo hi : List Int) : Prop where
  len : lo.length = hi.length
  dep : ∀ d c, S d c → 0 ≤ d ∧ d < (lo.length : Int)
  lo1 : ∀ i : Nat, i < lo.length → S (i : Int) (rd lo (i : Int))
  lo2 : ∀ i : Nat, i < lo.length → ∀ c, S (i : Int) c → rd lo (i : Int) ≤ c
  hi1 : ∀ i : Nat, i < lo.length → S (i : Int) (rd hi (i : Int))
  hi2 : ∀ i : Nat, i < lo.length → ∀ c, S (i : Int) c → c ≤ rd hi (i : Int)
def On (P : List Pt) (d c : Int) : Prop := (d, c) ∈ P
theorem nei_ned {P Q : List Pt} {lo hi ol oh : List Int} (h : LH (On P) lo hi) (hq : LH (On Q) ol oh) : nei hi ol (min hi.length ol.length) 0 none = ned Q P none := by
  have h1 := Mx.ned Q P none _ Mx.none_
  have h2 := Mx.nei hi ol (min hi.length ol.length) 0 none _ Mx.none_
  refine (h1.uniq h2 ?_ ?_).symm
  · rintro x (h3 | ⟨p, hp, q, hqm, he, hx⟩)
    · exact h3.elim
    · have h4 := h.dep p.1 p.2 hp
      have h5 := hq.dep q.1 q.2 hqm
      have hl := h.len
      obtain ⟨i, hi_⟩ := Int.eq_ofNat_of_zero_le h4.1
      have h6 := h.hi2 i (by omega) p.2 (by rw [← hi_]; exact hp)
      have h7 := hq.lo2 i (by omega) q.2 (by rw [← hi_, he]; exact hqm)
      exact ⟨_, .inr ⟨i, by omega, by omega, rfl⟩, by omega⟩
  · rintro x (h3 | ⟨j, _, h4, hx⟩)
    · exact h3.elim
    · have hl := h.len
      exact .inr ⟨_, h.hi1 j (by omega), _, hq.lo1 j (by omega), rfl, hx⟩
/-- One depth more of a moved tree. -/
theorem LH.step {S T : Int → Int → Prop} {lo hi lo' hi' : List Int} {i : Nat} {x y : Int} (h : LH S lo hi) (hi0 : i ≤ lo.length) (hx : T (i : Int) x) (hx2 : ∀ c, T (i : Int) c → x ≤ c) (hy : T (i : Int) y) (hy2 : ∀ c, T (i : Int) c → c ≤ y)
    (hl : lo'.length = max lo.length (i + 1)) (hh : hi'.length = max lo.length (i + 1)) (ho : ∀ j : Nat, j < lo.length → j ≠ i → rd lo' (j : Int) = rd lo (j : Int) ∧ rd hi' (j : Int) = rd hi (j : Int))
    (hn : i < lo.length → rd lo' (i : Int) = min (rd lo (i : Int)) x ∧ rd hi' (i : Int) = max (rd hi (i : Int)) y) (hn2 : i = lo.length → rd lo' (i : Int) = x ∧ rd hi' (i : Int) = y) : LH (fun d c => S d c ∨ (d = (i : Int) ∧ T d c)) lo' hi' := by
  have hS : ∀ c, i = lo.length → ¬ S (i : Int) c := fun c e hc => by have := h.dep _ _ hc; omega
  refine ⟨by omega, ?_, ?_, ?_, ?_, ?_⟩
  · rintro d c (h1 | ⟨h1, h2⟩)
    · have := h.dep d c h1; omega
    · omega
  · intro j hj
    by_cases e : j = i
    · subst e
      by_cases hc : j < lo.length
      · rw [(hn hc).1]
        by_cases hm : rd lo (j : Int) ≤ x
        · rw [Int.min_eq_left hm]; exact .inl (h.lo1 j hc)
        · rw [Int.min_eq_right (by omega)]; exact .inr ⟨rfl, hx⟩
      · rw [(hn2 (by omega)).1]; exact .inr ⟨rfl, hx⟩
    · rw [(ho j (by omega) e).1]; exact .inl (h.lo1 j (by omega))
  · intro j hj c hc
    by_cases e : j = i
    · subst e
      by_cases hcl : j < lo.length
      · rw [(hn hcl).1]
        rcases hc with hc | ⟨_, hc⟩
        · have := h.lo2 j hcl c hc; omega
        · have := hx2 c hc; omega
      · rw [(hn2 (by omega)).1]
        rcases hc with hc | ⟨_, hc⟩
        · exact absurd hc (hS c (by omega))
        · exact hx2 c hc
    · rw [(ho j (by omega) e).1]
      rcases hc with hc | ⟨hc, _⟩
      · exact h.lo2 j (by omega) c hc
      · omega
  · intro j hj
    by_cases e : j = i
    · subst e
      by_cases hc : j < lo.length
      · rw [(hn hc).2]
        by_cases hm : y ≤ rd hi (j : Int)
        · rw [Int.max_eq_left hm]; exact .inl (h.hi1 j hc)
        · rw [Int.max_eq_right (by omega)]; exact .inr ⟨rfl, hy⟩
      · rw [(hn2 (by omega)).2]; exact .inr ⟨rfl, hy⟩
    · rw [(ho j (by omega) e).2]; exact .inl (h.hi1 j (by omega))
  · intro j hj c hc
    by_cases e : j = i
    · subst e
      by_cases hcl : j < lo.length
      · rw [(hn hcl).2]
        rcases hc with hc | ⟨_, hc⟩
        · have := h.hi2 j hcl c hc; omega
        · have := hy2 c hc; omega
      · rw [(hn2 (by omega)).2]
        rcases hc with hc | ⟨_, hc⟩
        · exact absurd hc (hS c (by omega))
        · exact hy2 c hc
    · rw [(ho j (by omega) e).2]
      rcases hc with hc | ⟨hc, _⟩
      · exact h.hi2 j (by omega) c hc
      · omega
theorem LH.congr {S T : Int → Int → Prop} {lo hi : List Int} (h : LH S lo hi) (he : ∀ d c, S d c ↔ T d c) : LH T lo hi :=
  ⟨h.len, fun d c hc => h.dep d c ((he d c).mpr hc), fun i hi => (he _ _).mp (h.lo1 i hi), fun i hi c hc => h.lo2 i hi c ((he _ _).mpr hc), fun i hi => (he _ _).mp (h.hi1 i hi), fun i hi c hc => h.hi2 i hi c ((he _ _).mpr hc)⟩
theorem LH.nil : LH (On []) [] [] := ⟨rfl, fun d c h => by simp [On] at h, fun i h => by simp at h, fun i h => by simp at h, fun i h => by simp at h, fun i h => by simp at h⟩
/-- A tree's arrays: the root ahead of them. -/
theorem LH.tre {s : List Pt × List Int} {lo hi : List Int} (h : LH (On s.1) lo hi) : LH (On (tre s)) (rt s.2 :: lo) (rt s.2 :: hi) := by
  have hr : ∀ (x : Int) (l : List Int) (i : Nat), rd (x :: l) ((i + 1 : Nat) : Int) = rd l (i : Int) := fun x l i => by simp [rd, List.getD_eq_getElem?_getD]
  have h0 : ∀ (x : Int) (l : List Int), rd (x :: l) ((0 : Nat) : Int) = x := fun x l => by simp [rd]
  have hon : ∀ d c, On (Td.tre s) d c ↔ (d = 0 ∧ c = rt s.2) ∨ On s.1 (d - 1) c := fun d c => by
    unfold On Td.tre
    rw [List.mem_cons, List.mem_map]
    constructor
    · rintro (h1 | ⟨p, h1, h2⟩)
      · simp only [Prod.mk.injEq] at h1; exact .inl h1
      · simp only [Prod.mk.injEq] at h2
        refine .inr ?_
        rw [← h2.1, ← h2.2, show p.1 + 1 - 1 = p.1 by omega]; exact h1
    · rintro (⟨rfl, rfl⟩ | h1)
      · exact .inl rfl
      · exact .inr ⟨(d - 1, c), h1, by simp⟩
  have hd0 : ∀ c, ¬ On s.1 (-1) c := fun c hc => by have := h.dep _ _ hc; omega
  refine ⟨by simp [h.len], ?_, ?_, ?_, ?_, ?_⟩
  · intro d c hc
    rcases (hon d c).mp hc with h1 | h1
    · simp; omega
    · have := h.dep _ _ h1; simp; omega
  · intro i hi
    rw [hon]
    cases i with
    | zero => rw [h0]; exact .inl ⟨rfl, rfl⟩
    | succ i => rw [hr]; refine .inr ?_; rw [show ((i + 1 : Nat) : Int) - 1 = (i : Int) by omega]; exact h.lo1 i (by simp at hi; omega)
  · intro i hi c hc
    rcases (hon _ _).mp hc with h1 | h1
    · cases i with
      | zero => rw [h0]; omega
      | succ i => omega
    · cases i with
      | zero => exact absurd h1 (hd0 c)
      | succ i => rw [hr]; exact h.lo2 i (by simp at hi; omega) c (by rwa [show ((i + 1 : Nat) : Int) - 1 = (i : Int) by omega] at h1)
  · intro i hi
    rw [hon]
    cases i with
    | zero => rw [h0]; exact .inl ⟨rfl, rfl⟩
    | succ i => rw [hr]; refine .inr ?_; rw [show ((i + 1 : Nat) : Int) - 1 = (i : Int) by omega]; exact h.hi1 i (by simp at hi; omega)
  · intro i hi c hc
    rcases (hon _ _).mp hc with h1 | h1
    · cases i with
      | zero => rw [h0]; omega
      | succ i => omega
    · cases i with
      | zero => exact absurd h1 (hd0 c)
      | succ i => rw [hr]; exact h.hi2 i (by simp at hi; omega) c (by rwa [show ((i + 1 : Nat) : Int) - 1 = (i : Int) by omega] at h1)
/-! ### Depths and bounds -/
theorem depths_succ (g : F) : ∀ k, g.depths (k + 1) = (g.depths k).map (· + 1) := by
  induction g with
  | nil => intro k; rfl
  | cons b n hb hn => intro k; simp [F.depths, hb, hn]
theorem pl_depths : ∀ (g : F) (s : List Pt × List Int), (pl g s).1.map Prod.fst = s.1.map Prod.fst ++ g.depths 0 := by
  intro g
  induction g with
  | nil => intro s; simp [pl, F.depths]
  | cons b n hb hn =>
    intro s
    rw [pl, hn, F.depths]
    have h1 := hb ([], [])
    simp only [List.map_nil, List.nil_append] at h1
    have h2 : ∀ (l : List Pt), (l.map fun p => (p.1 + 1, p.2)).map Prod.fst = (l.map Prod.fst).map (· + 1) := fun l => by simp [Function.comp_def]
    have h3 : ∀ (x : Int) (l : List Pt), (shf x l).map Prod.fst = l.map Prod.fst := fun x l => by simp [shf, Function.comp_def]
    rw [List.map_append, h3, tre, List.map_cons, h2, h1, ← depths_succ]
    simp
theorem pl_len (g : F) (s : List Pt × List Int) : (pl g s).1.length = s.1.length + g.size := by
  have h := congrArg List.length (pl_depths g s)
  simpa [F.depths_len] using h
def Bd (M : Int) (l : List Int) : Prop := ∀ x ∈ l, -M ≤ x ∧ x ≤ M
theorem pow_ge (n : Nat) : (1 : Int) ≤ 4 ^ n := by
  induction n with
  | zero => simp
  | succ n ih => rw [Int.pow_succ]; omega
theorem rd_in {l : List Int} {M : Int} (h : Bd M l) (hM : 0 ≤ M) (i : Int) : -M ≤ rd l i ∧ rd l i ≤ M := by
  unfold rd
  rw [List.getD_eq_getElem?_getD]
  cases hl : l[i.toNat]? with
  | none => simp; omega
  | some x => simpa using h x (List.mem_of_getElem? hl)
theorem rt_in {R : List Int} {M : Int} (h : Bd M R) (hM : 0 ≤ M) : -M ≤ rt R ∧ rt R ≤ M := by
  have h1 := rd_in h hM 0
  have h2 := rd_in h hM ((R.length : Int) - 1)
  unfold rt
  split
  · omega
  · omega
theorem mv_in {P Q : List Pt} {A B : Int} (hP : Bd A (P.map Prod.snd)) (hQ : Bd B (Q.map Prod.snd)) (hA : 0 ≤ A) (hB : 0 ≤ B) : (P = [] → mv P Q = 0) ∧ -(A + B + 2) ≤ mv P Q ∧ mv P Q ≤ A + B + 2 := by
  refine ⟨fun e => by subst e; rfl, ?_⟩
  unfold mv
  rcases Mx.ned Q P none _ Mx.none_ with ⟨h1, _⟩ | ⟨m, h1, h2, _⟩
  · rw [h1]; simp; omega
  · rw [h1]
    rcases h2 with h2 | ⟨p, hp, q, hq, _, hm⟩
    · exact h2.elim
    · have h3 := hP p.2 (List.mem_map.mpr ⟨p, hp, rfl⟩)
      have h4 := hQ q.2 (List.mem_map.mpr ⟨q, hq, rfl⟩)
      simp only [Option.getD_some]; omega
def Ok (s : List Pt × List Int) : Prop := Bd (4 ^ s.1.length) (s.1.map Prod.snd) ∧ Bd (4 ^ s.1.length) s.2 ∧ (s.1 = [] → s.2 = [])
theorem tre_in {s : List Pt × List Int} (h : Ok s) : Bd (4 ^ s.1.length) ((tre s).map Prod.snd) := by
  have h1 := pow_ge s.1.length
  have h2 := rt_in h.2.1 (by omega)
  intro x hx
  have h3 : ∀ (l : List Pt), (l.map fun p => (p.1 + 1, p.2)).map Prod.snd = l.map Prod.snd := fun l => by simp [Function.comp_def]
  rw [tre, List.map_cons, h3] at hx
  rcases List.mem_cons.mp hx with hx | hx
  · rw [hx]; exact h2
  · exact h.1 x hx
theorem ok_add {s u : List Pt × List Int} (h : Ok s) (hu : Ok u) : Ok (s.1 ++ shf (mv s.1 (tre u)) (tre u), s.2 ++ [rt u.2 + mv s.1 (tre u)]) := by
  have ht := tre_in hu
  have hl : (tre u).length = u.1.length + 1 := by simp [tre]
  have hsl : (shf (mv s.1 (tre u)) (tre u)).length = u.1.length + 1 := by simp [shf, hl]
  have hA := pow_ge s.1.length
  have hB := pow_ge u.1.length
  have hm := mv_in h.1 ht (by omega) (by omega)
  have hr := rt_in hu.2.1 (by omega)
  have e4 : (4 : Int) ^ (s.1.length + (u.1.length + 1)) = 4 ^ s.1.length * 4 ^ u.1.length * 4 := by rw [Int.pow_add, Int.pow_succ, Int.mul_assoc]
  have hall : ∀ x, -(4 ^ u.1.length) ≤ x → x ≤ 4 ^ u.1.length → -(4 ^ s.1.length * 4 ^ u.1.length * 4) ≤ x + mv s.1 (tre u) ∧ x + mv s.1 (tre u) ≤ 4 ^ s.1.length * 4 ^ u.1.length * 4 := by
    intro x h1 h2
    by_cases e : s.1 = []
    · rw [hm.1 e, e]; simp; omega
    · have hs1 : 1 ≤ s.1.length := by
        cases hc : s.1 with
        | nil => exact absurd hc e
        | cons a l => simp
      have hA4 : (4 : Int) ≤ 4 ^ s.1.length := by
        obtain ⟨k, hk⟩ : ∃ k, s.1.length = k + 1 := ⟨s.1.length - 1, by omega⟩
        rw [hk, Int.pow_succ]; have := pow_ge k; omega
      have hp := Int.mul_nonneg (show 0 ≤ (4 : Int) ^ s.1.length - 4 by omega) (show 0 ≤ (4 : Int) ^ u.1.length - 1 by omega)
      rw [Int.sub_mul, Int.mul_sub] at hp
      generalize (4 : Int) ^ s.1.length * 4 ^ u.1.length = z at hp ⊢
      omega
  have hmono : ∀ x, -(4 ^ s.1.length) ≤ x → x ≤ 4 ^ s.1.length → -(4 ^ s.1.length * 4 ^ u.1.length * 4) ≤ x ∧ x ≤ 4 ^ s.1.length * 4 ^ u.1.length * 4 := by
    intro x h1 h2
    have hp := Int.mul_nonneg (show 0 ≤ (4 : Int) ^ s.1.length by omega) (show 0 ≤ (4 : Int) ^ u.1.length - 1 by omega)
    rw [Int.mul_sub] at hp
    generalize (4 : Int) ^ s.1.length * 4 ^ u.1.length = z at hp ⊢
    omega
  have hshf : ∀ (y : Int) (l : List Pt), (shf y l).map Prod.snd = (l.map Prod.snd).map (· + y) := fun y l => by simp [shf, Function.comp_def]
  refine ⟨?_, ?_, ?_⟩
  · intro x hx
    simp only [List.length_append, hsl, e4]
    simp only [List.map_append, hshf] at hx
    rcases List.mem_append.mp hx with hx | hx
    · exact hmono x (h.1 x hx).1 (h.1 x hx).2
    · obtain ⟨y, hy, rfl⟩ := List.mem_map.mp hx
      exact hall y (ht y hy).1 (ht y hy).2
  · intro x hx
    simp only [List.length_append, hsl, e4]
    rcases List.mem_append.mp hx with hx | hx
    · exact hmono x (h.2.1 x hx).1 (h.2.1 x hx).2
    · rw [List.mem_singleton] at hx
      subst hx
      exact hall _ hr.1 hr.2
  · intro e
    simp only at e
    have := congrArg List.length e
    rw [List.length_append, hsl] at this
    simp at this
theorem ok_nil : Ok ([], []) := ⟨by intro x hx; simp at hx, by intro x hx; simp at hx, fun _ => rfl⟩
theorem ok_pl : ∀ (g : F) (s : List Pt × List Int), Ok s → Ok (pl g s) := by
  intro g
  induction g with
  | nil => intro s h; exact h
  | cons b n hb hn => intro s h; rw [pl]; exact hn _ (ok_add h (hb _ ok_nil))
theorem depths_lt : ∀ (g : F) (k x : Int), x ∈ g.depths k → k ≤ x ∧ x < k + g.size := by
  intro g
  induction g with
  | nil => intro k x h; simp [F.depths] at h
  | cons b n hb hn =>
    intro k x h
    simp only [F.depths, List.mem_cons, List.mem_append] at h
    simp only [F.size]
    rcases h with h | h | h
    · omega
    · have := hb _ _ h; omega
    · have := hn _ _ h; omega
theorem tre_dep {b : F} {p : Pt} (h : p ∈ tre (pl b ([], []))) : 0 ≤ p.1 ∧ p.1 ≤ b.size := by
  rw [tre] at h
  rcases List.mem_cons.mp h with h | h
  · rw [h]; simp
  · obtain ⟨q, hq, rfl⟩ := List.mem_map.mp h
    have h1 := pl_depths b ([], [])
    have h2 : q.1 ∈ b.depths 0 := by
      have : q.1 ∈ (pl b ([], [])).1.map Prod.fst := List.mem_map.mpr ⟨q, hq, rfl⟩
      rw [h1] at this; simpa using this
    have := depths_lt b 0 _ h2
    simp only; omega
theorem LH.few {P : List Pt} {lo hi : List Int} (h : LH (On P) lo hi) {M : Nat} (hb : ∀ p ∈ P, p.1 ≤ (M : Int)) : lo.length ≤ M + 1 := by
  by_cases h0 : lo.length = 0
  · omega
  · have := hb _ (h.lo1 (lo.length - 1) (by omega))
    simp only at this; omega
theorem shf_mem {b : Int} {Q : List Pt} {p : Pt} (h : p ∈ shf b Q) : ∃ q ∈ Q, p.1 = q.1 := by
  obtain ⟨q, hq, rfl⟩ := List.mem_map.mp h
  exact ⟨q, hq, rfl⟩
theorem shf_snd (b : Int) (Q : List Pt) : (shf b Q).map Prod.snd = (Q.map Prod.snd).map (· + b) := by simp [shf, Function.comp_def]
theorem shf_fst (b : Int) (Q : List Pt) : (shf b Q).map Prod.fst = Q.map Prod.fst := by simp [shf, Function.comp_def]
theorem tre_fst (b : F) : (tre (pl b ([], []))).map Prod.fst = 0 :: b.depths 1 := by
  have h1 := pl_depths b ([], [])
  simp only [List.map_nil, List.nil_append] at h1
  have h2 : ∀ (l : List Pt), (l.map fun p => (p.1 + 1, p.2)).map Prod.fst = (l.map Prod.fst).map (· + 1) := fun l => by simp [Function.comp_def]
  have h3 := depths_succ b 0
  rw [show (0 : Int) + 1 = 1 by omega] at h3
  rw [tre, List.map_cons, h2, h1, h3]
theorem pow_small {n : Nat} (h : n ≤ 24) : (4 : Int) ^ n ≤ 281474976710656 := by
  have : (4 : Int) ^ n ≤ 4 ^ 24 := by
    obtain ⟨k, hk⟩ : ∃ k, 24 = n + k := ⟨24 - n, by omega⟩
    rw [hk, Int.pow_add]
    have h1 := pow_ge n
    have h2 := pow_ge k
    have := Int.mul_le_mul_of_nonneg_left h2 (show 0 ≤ (4 : Int) ^ n by omega)
    omega
  exact Int.le_trans this (by decide)
theorem Bd.mono {M M' : Int} {l : List Int} (h : Bd M l) (hm : M ≤ M') : Bd M' l := fun x hx => by have := h x hx; omega
end Go.Proofs.Yteangdgmokkjbab.Td
