/- Numbers of growing orders: factorials, products of sizes, fractions made small step by step. Plain mathematics, no program in sight. -/
import Derived.Test.YtlmaoeahdhbkdaaNd
namespace Go.Proofs.Ytlmaoeahdhbkdaa.Tr
open Go.RowKit Go.Proofs.YtlmaoeahdhbkdaaW.PrintWords
set_option linter.unusedSimpArgs false
set_option linter.unusedVariables false

def fact : Nat → Nat
  | 0 => 1
  | n + 1 => (n + 1) * fact n
theorem fact_pos : ∀ n, 0 < fact n
  | 0 => by simp [fact]
  | n + 1 => by unfold fact; exact Nat.mul_pos (by omega) (fact_pos n)
theorem fact_le : ∀ m n, m ≤ n → fact m ≤ fact n := by
  intro m n h
  induction n with
  | zero =>
    obtain rfl : m = 0 := (by omega)
    exact Nat.le_refl _
  | succ n ih =>
    by_cases e : m = n + 1
    · rw [e]; exact Nat.le_refl _
    · have := ih (by omega)
      have h2 : fact n ≤ (n + 1) * fact n := Nat.le_mul_of_pos_left _ (by omega)
      exact Nat.le_trans this h2
/-- How many ways there are to lay a things and c things in a row. -/
def bin : Nat → Nat → Nat
  | 0, _ => 1
  | _ + 1, 0 => 1
  | a + 1, c + 1 => bin a (c + 1) + bin (a + 1) c
termination_by a c => a + c
theorem bin_fact : ∀ s a c : Nat, a + c = s → bin a c * (fact a * fact c) = fact s := by
  intro s
  induction s with
  | zero =>
    intro a c h
    obtain rfl : a = 0 := by omega
    obtain rfl : c = 0 := by omega
    simp [bin, fact]
  | succ s ih =>
    intro a c h
    match a, c with
    | 0, c =>
      obtain rfl : c = s + 1 := (by omega)
      simp [bin, fact]
    | a + 1, 0 =>
      obtain rfl : a = s := (by omega)
      simp [bin, fact]
    | a + 1, c + 1 =>
      have h1 := ih a (c + 1) (by omega)
      have h2 := ih (a + 1) c (by omega)
      have e1 : bin a (c + 1) * (fact (a + 1) * fact (c + 1)) = (a + 1) * (bin a (c + 1) * (fact a * fact (c + 1))) := by
        rw [show fact (a + 1) = (a + 1) * fact a from rfl]; ac_rfl
      have e2 : bin (a + 1) c * (fact (a + 1) * fact (c + 1)) = (c + 1) * (bin (a + 1) c * (fact (a + 1) * fact c)) := by
        rw [show fact (c + 1) = (c + 1) * fact c from rfl]; ac_rfl
      rw [show bin (a + 1) (c + 1) = bin a (c + 1) + bin (a + 1) c by rw [bin], Nat.add_mul, e1, e2, h1, h2, ← Nat.add_mul, show fact (s + 1) = (s + 1) * fact s from rfl]
      congr 1
theorem fact_dvd (a c : Nat) : fact a * fact c ∣ fact (a + c) := ⟨bin a c, by rw [Nat.mul_comm]; exact (bin_fact (a + c) a c rfl).symm⟩
/-- The product of the sizes of all subtrees. -/
def F.prod : F → Nat
  | .nil => 1
  | .cons b n => (1 + b.size) * (b.prod * n.prod)
theorem F.prod_pos (f : F) : 0 < f.prod := by
  induction f with
  | nil => simp [F.prod]
  | cons b n hb hn => unfold F.prod; exact Nat.mul_pos (by omega) (Nat.mul_pos hb hn)
theorem F.prod_dvd (f : F) : f.prod ∣ fact f.size := by
  induction f with
  | nil => simp [F.prod, F.size, fact]
  | cons b n hb hn =>
    have h1 : (1 + b.size) * b.prod ∣ fact (1 + b.size) := by
      rw [show 1 + b.size = b.size + 1 by omega, show fact (b.size + 1) = (b.size + 1) * fact b.size from rfl]
      exact Nat.mul_dvd_mul_left _ hb
    have h2 : ((1 + b.size) * b.prod) * n.prod ∣ fact (1 + b.size) * fact n.size := Nat.mul_dvd_mul h1 hn
    have h3 := Nat.dvd_trans h2 (fact_dvd (1 + b.size) n.size)
    rw [show (F.cons b n).prod = (1 + b.size) * (b.prod * n.prod) from rfl, show (F.cons b n).size = 1 + b.size + n.size from rfl, ← Nat.mul_assoc]
    exact h3
/-- Products of lists of numbers. -/
def lprod : List Nat → Nat
  | [] => 1
  | x :: l => x * lprod l
theorem lprod_app (a b : List Nat) : lprod (a ++ b) = lprod a * lprod b := by
  induction a with
  | nil => simp [lprod]
  | cons x l ih => simp [lprod, ih, Nat.mul_assoc]
theorem lprod_pos : ∀ (l : List Nat), (∀ x ∈ l, 0 < x) → 0 < lprod l
  | [], _ => by simp [lprod]
  | x :: l, h => by unfold lprod; exact Nat.mul_pos (h x (List.mem_cons_self ..)) (lprod_pos l (fun y hy => h y (List.mem_cons_of_mem _ hy)))
theorem lprod_le_mem : ∀ (l : List Nat), (∀ x ∈ l, 0 < x) → ∀ x ∈ l, x ≤ lprod l
  | [], _, x, hx => by simp at hx
  | y :: l, h, x, hx => by
    have hp := lprod_pos l (fun z hz => h z (List.mem_cons_of_mem _ hz))
    unfold lprod
    rcases List.mem_cons.1 hx with rfl | hx
    · exact Nat.le_mul_of_pos_right _ hp
    · exact Nat.le_trans (lprod_le_mem l (fun z hz => h z (List.mem_cons_of_mem _ hz)) x hx) (Nat.le_mul_of_pos_left _ (h y (List.mem_cons_self ..)))
/-- One number below is divided out of all above. -/
def cancel : Nat → List Nat → Nat × List Nat
  | b, [] => (b, [])
  | b, t :: ts => if 1 < b then ((cancel (b / Nat.gcd t b) ts).1, t / Nat.gcd t b :: (cancel (b / Nat.gcd t b) ts).2) else (b, t :: ts)
theorem cancel_spec : ∀ (ts : List Nat) (b : Nat), 0 < b → (∀ x ∈ ts, 0 < x) → b ∣ lprod ts →
    (cancel b ts).1 = 1 ∧ b * lprod (cancel b ts).2 = lprod ts ∧ (∀ x ∈ (cancel b ts).2, 0 < x) ∧ (cancel b ts).2.length = ts.length := by
  intro ts
  induction ts with
  | nil =>
    intro b hb _ hd
    simp only [lprod, Nat.dvd_one] at hd
    subst hd
    simp [cancel, lprod]
  | cons t ts ih =>
    intro b hb hp hd
    have ht := hp t (List.mem_cons_self ..)
    have hts : ∀ x ∈ ts, 0 < x := fun x hx => hp x (List.mem_cons_of_mem _ hx)
    by_cases h1 : 1 < b
    · have hg : 0 < Nat.gcd t b := Nat.gcd_pos_of_pos_left _ ht
      obtain ⟨t', ht'⟩ := Nat.gcd_dvd_left t b
      obtain ⟨b', hb'⟩ := Nat.gcd_dvd_right t b
      have e1 : t / Nat.gcd t b = t' := Nat.div_eq_of_eq_mul_right hg ht'
      have e2 : b / Nat.gcd t b = b' := Nat.div_eq_of_eq_mul_right hg hb'
      have hcop : Nat.Coprime b' t' := by
        have := Nat.coprime_div_gcd_div_gcd (m := t) (n := b) hg
        rw [e1, e2] at this
        exact this.symm
      have hb'p : 0 < b' := by
        rcases Nat.eq_zero_or_pos b' with h | h
        · rw [h, Nat.mul_zero] at hb'; omega
        · exact h
      have ht'p : 0 < t' := by
        rcases Nat.eq_zero_or_pos t' with h | h
        · rw [h, Nat.mul_zero] at ht'; omega
        · exact h
      have hd2 : b' ∣ lprod ts := by
        have h2 : Nat.gcd t b * b' ∣ Nat.gcd t b * (t' * lprod ts) := by
          rw [← hb', ← Nat.mul_assoc, ← ht']; exact hd
        have h3 : b' ∣ t' * lprod ts := Nat.dvd_of_mul_dvd_mul_left hg h2
        exact hcop.dvd_of_dvd_mul_left h3
      obtain ⟨i1, i2, i3, i4⟩ := ih b' hb'p hts hd2
      unfold cancel
      rw [if_pos h1, e1, e2]
      refine ⟨i1, ?_, ?_, by simp [i4]⟩
      · show b * (t' * lprod (cancel b' ts).2) = t * lprod ts
        generalize Nat.gcd t b = g at ht' hb'
        rw [ht', hb', ← i2]; ac_rfl
      · intro x hx
        rcases List.mem_cons.1 hx with rfl | hx
        · exact ht'p
        · exact i3 x hx
    · have e : b = 1 := by omega
      subst e
      unfold cancel
      rw [if_neg h1]
      exact ⟨rfl, by simp, hp, rfl⟩
theorem cancel_le {M : Nat} : ∀ (ts : List Nat) (b : Nat), (∀ x ∈ ts, x ≤ M) → ∀ x ∈ (cancel b ts).2, x ≤ M := by
  intro ts
  induction ts with
  | nil => intro b _ x hx; simp [cancel] at hx
  | cons t ts ih =>
    intro b h x hx
    unfold cancel at hx
    by_cases h1 : 1 < b
    · rw [if_pos h1] at hx
      rcases List.mem_cons.1 hx with rfl | hx
      · exact Nat.le_trans (Nat.div_le_self _ _) (h t (List.mem_cons_self ..))
      · exact ih _ (fun y hy => h y (List.mem_cons_of_mem _ hy)) x hx
    · rw [if_neg h1] at hx
      exact h x hx
def cancelAll : List Nat → List Nat → List Nat
  | [], ts => ts
  | b :: bs, ts => cancelAll bs (cancel b ts).2
theorem cancelAll_spec : ∀ (bs ts : List Nat), (∀ x ∈ bs, 0 < x) → (∀ x ∈ ts, 0 < x) → lprod bs ∣ lprod ts → lprod bs * lprod (cancelAll bs ts) = lprod ts := by
  intro bs
  induction bs with
  | nil => intro ts _ _ _; simp [cancelAll, lprod]
  | cons b bs ih =>
    intro ts hb ht hd
    have hb0 := hb b (List.mem_cons_self ..)
    have hd1 : b ∣ lprod ts := Nat.dvd_trans ⟨lprod bs, rfl⟩ hd
    obtain ⟨h1, h2, h3, h4⟩ := cancel_spec ts b hb0 ht hd1
    have hd2 : lprod bs ∣ lprod (cancel b ts).2 := by
      have : b * lprod bs ∣ b * lprod (cancel b ts).2 := by rw [h2]; exact hd
      exact Nat.dvd_of_mul_dvd_mul_left hb0 this
    have := ih (cancel b ts).2 (fun x hx => hb x (List.mem_cons_of_mem _ hx)) h3 hd2
    rw [show cancelAll (b :: bs) ts = cancelAll bs (cancel b ts).2 from rfl, show lprod (b :: bs) = b * lprod bs from rfl, Nat.mul_assoc, this, h2]
theorem lprod_up : ∀ n, lprod ((List.range n).map (· + 1)) = fact n := by
  intro n
  induction n with
  | zero => rfl
  | succ n ih => rw [List.range_succ, List.map_append, lprod_app, ih]; simp [lprod, fact, Nat.mul_comm]
/-- The sizes of all subtrees, in preorder. -/
def F.szs : F → List Nat
  | .nil => []
  | .cons b n => (1 + b.size) :: (b.szs ++ n.szs)
theorem F.szs_prod (f : F) : lprod f.szs = f.prod := by
  induction f with
  | nil => rfl
  | cons b n hb hn => simp [F.szs, F.prod, lprod, lprod_app, hb, hn]
theorem F.szs_len (f : F) : f.szs.length = f.size := by
  induction f with
  | nil => rfl
  | cons b n hb hn => simp [F.szs, F.size, hb, hn]; omega
theorem F.szs_get : ∀ (f : F) (v : Nat), v < f.size → f.szs.getD v 0 = 1 + (f.sub v).size := by
  intro f
  induction f with
  | nil => intro v h; simp [F.size] at h
  | cons b n hb hn =>
    intro v h
    simp only [F.size] at h
    by_cases e : v = 0
    · subst e; rw [F.sub_zero]; simp [F.szs]
    · obtain ⟨u, rfl⟩ : ∃ u, v = u + 1 := ⟨v - 1, by omega⟩
      by_cases h2 : u + 1 < 1 + b.size
      · rw [F.sub_left (by omega) h2, Nat.add_sub_cancel]
        rw [F.szs, List.getD_cons_succ, List.getD_eq_getElem?_getD, List.getElem?_append_left (by rw [F.szs_len]; omega), ← List.getD_eq_getElem?_getD]
        exact hb u (by omega)
      · rw [F.sub_right (by omega), Nat.add_sub_cancel]
        rw [F.szs, List.getD_cons_succ, List.getD_eq_getElem?_getD, List.getElem?_append_right (by rw [F.szs_len]; omega), F.szs_len, ← List.getD_eq_getElem?_getD]
        exact hn (u - b.size) (by omega)
theorem F.szs_pos (f : F) : ∀ x ∈ f.szs, 0 < x := by
  induction f with
  | nil => intro x hx; simp [F.szs] at hx
  | cons b n hb hn =>
    intro x hx
    simp only [F.szs, List.mem_cons, List.mem_append] at hx
    rcases hx with rfl | hx | hx
    · omega
    · exact hb x hx
    · exact hn x hx
end Go.Proofs.Ytlmaoeahdhbkdaa.Tr
