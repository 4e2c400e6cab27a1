/- Numbers of growing orders: factorials, products of sizes, fractions made small step by step. Plain mathematics, no program in sight. -/
import Derived.Test.YtlppkilencpmeaaNd
namespace Go.Proofs.Ytlppkilencpmeaa.Tr
open Go.RowKit Go.Proofs.YtlppkilencpmeaaW.PrintWords
set_option linter.unusedSimpArgs false
set_option linter.unusedVariables false

def fact : Nat → Nat
  | 0 => 1
  | n + 1 => (n + 1) * fact n
theorem fact_pos : ∀ n, 0 < fact n
  | 0 => by simp [fact]
  | n + 1 => by unfold fact; exact Nat.mul_pos (by omega) (fact_pos n)
theorem fact_le : ∀ m n, m ≤ n → fact m ≤ fact n := by
  intro m n h
  induction n with
  | zero =>
    obtain rfl : m = 0 := (by omega)
    exact Nat.le_refl _
  | succ n ih =>
    by_cases e : m = n + 1
    · rw [e]; exact Nat.le_refl _
    · have := ih (by omega)
      have h2 : fact n ≤ (n + 1) * fact n := Nat.le_mul_of_pos_left _ (by omega)
      exact Nat.le_trans this h2
/-- How many ways there are to lay a things and c things in a row. -/
def bin : Nat → Nat → Nat
  | 0, _ => 1
  | _ + 1, 0 => 1
  | a + 1, c + 1 => bin a (c + 1) + bin (a + 1) c
termination_by a c => a + c
theorem bin_fact : ∀ s a c : Nat, a + c = s → bin a c * (fact a * fact c) = fact s := by
  intro s
  induction s with
  | zero =>
    intro a c h
    obtain rfl : a = 0 := by omega
    obtain rfl : c = 0 := by omega
    simp [bin, fact]
  | succ s ih =>
    intro a c h
    match a, c with
    | 0, c =>
      obtain rfl : c = s + 1 := (by omega)
      simp [bin, fact]
    | a + 1, 0 =>
      obtain rfl : a = s := (by omega)
      simp [bin, fact]
    | a + 1, c + 1 =>
      have h1 := ih a (c + 1) (by omega)
      have h2 := ih (a + 1) c (by omega)
      have e1 : bin a (c + 1) * (fact (a + 1) * fact (c + 1)) = (a + 1) * (bin a (c + 1) * (fact a * fact (c + 1))) := by
        rw [show fact (a + 1) = (a + 1) * fact a from rfl]; ac_rfl
      have e2 : bin (a + 1) c * (fact (a + 1) * fact (c + 1)) = (c + 1) * (bin (a + 1) c * (fact (a + 1) * fact c)) := by
        rw [show fact (c + 1) = (c + 1) * fact c from rfl]; ac_rfl
      rw [show bin (a + 1) (c + 1) = bin a (c + 1) + bin (a + 1) c by rw [bin], Nat.add_mul, e1, e2, h1, h2, ← Nat.add_mul, show fact (s + 1) = (s + 1) * fact s from rfl]
      congr 1
theorem fact_dvd (a c : Nat) : fact a * fact c ∣ fact (a + c) := ⟨bin a c, by rw [Nat.mul_comm]; exact (bin_fact (a + c) a c rfl).symm⟩
/-- The product of the sizes of all subtrees. -/
def F.prod : F → Nat
  | .nil => 1
  | .cons b n => (1 + b.size) * (b.prod * n.prod)
theorem F.prod_dvd (f : F) : f.prod ∣ fact f.size := by
  induction f with
  | nil => simp [F.prod, F.size, fact]
  | cons b n hb hn =>
    have h1 : (1 + b.size) * b.prod ∣ fact (1 + b.size) := by
      rw [show 1 + b.size = b.size + 1 by omega, show fact (b.size + 1) = (b.size + 1) * fact b.size from rfl]
      exact Nat.mul_dvd_mul_left _ hb
    have h2 : ((1 + b.size) * b.prod) * n.prod ∣ fact (1 + b.size) * fact n.size := Nat.mul_dvd_mul h1 hn
    have h3 := Nat.dvd_trans h2 (fact_dvd (1 + b.size) n.size)
    rw [show (F.cons b n).prod = (1 + b.size) * (b.prod * n.prod) from rfl, show (F.cons b n).size = 1 + b.size + n.size from rfl, ← Nat.mul_assoc]
    exact h3
/-- Products of lists of numbers. -/
def lprod : List Nat → Nat
  | [] => 1
  | x :: l => x * lprod l
theorem lprod_app (a b : List Nat) : lprod (a ++ b) = lprod a * lprod b := by
  induction a with
  | nil => simp [lprod]
  | cons x l ih => simp [lprod, ih, Nat.mul_assoc]
theorem lprod_pos : ∀ (l : List Nat), (∀ x ∈ l, 0 < x) → 0 < lprod l
  | [], _ => by simp [lprod]
  | x :: l, h => by unfold lprod; exact Nat.mul_pos (h x (List.mem_cons_self ..)) (lprod_pos l (fun y hy => h y (List.mem_cons_of_mem _ hy)))
/-- The sizes of all subtrees, in preorder. -/
def F.szs : F → List Nat
  | .nil => []
  | .cons b n => (1 + b.size) :: (b.szs ++ n.szs)
theorem F.szs_prod (f : F) : lprod f.szs = f.prod := by
  induction f with
  | nil => rfl
  | cons b n hb hn => simp [F.szs, F.prod, lprod, lprod_app, hb, hn]
theorem F.szs_len (f : F) : f.szs.length = f.size := by
  induction f with
  | nil => rfl
  | cons b n hb hn => simp [F.szs, F.size, hb, hn]; omega
theorem F.szs_get : ∀ (f : F) (v : Nat), v < f.size → f.szs.getD v 0 = 1 + (f.sub v).size := by
  intro f
  induction f with
  | nil => intro v h; simp [F.size] at h
  | cons b n hb hn =>
    intro v h
    simp only [F.size] at h
    by_cases e : v = 0
    · subst e; rw [F.sub_zero]; simp [F.szs]
    · obtain ⟨u, rfl⟩ : ∃ u, v = u + 1 := ⟨v - 1, by omega⟩
      by_cases h2 : u + 1 < 1 + b.size
      · rw [F.sub_left (by omega) h2, Nat.add_sub_cancel]
        rw [F.szs, List.getD_cons_succ, List.getD_eq_getElem?_getD, List.getElem?_append_left (by rw [F.szs_len]; omega), ← List.getD_eq_getElem?_getD]
        exact hb u (by omega)
      · rw [F.sub_right (by omega), Nat.add_sub_cancel]
        rw [F.szs, List.getD_cons_succ, List.getD_eq_getElem?_getD, List.getElem?_append_right (by rw [F.szs_len]; omega), F.szs_len, ← List.getD_eq_getElem?_getD]
        exact hn (u - b.size) (by omega)
end Go.Proofs.Ytlppkilencpmeaa.Tr
