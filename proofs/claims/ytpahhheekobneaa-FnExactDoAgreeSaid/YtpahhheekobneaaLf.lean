/- The most nodes of two trees that stay if leaves alone are edited: rows of numbers, child by child. Plain mathematics, no program in sight. -/
import Derived.Test.YtpahhheekobneaaNd
import Derived.Test.YtpahhheekobneaaWMore
namespace Go.Proofs.Ytpahhheekobneaa.Tr
open Go.RowKit Go.Proofs.YtpahhheekobneaaW.PrintWords Go.Proofs.YtpahhheekobneaaW.PrintMore
set_option linter.unusedSimpArgs false
set_option linter.unusedVariables false

theorem mx_comm (a b : Int) : mx a b = mx b a := by unfold mx; split <;> split <;> omega
theorem mx_assoc (a b c : Int) : mx (mx a b) c = mx a (mx b c) := by
  unfold mx
  by_cases h1 : a < b <;> by_cases h2 : b < c <;> by_cases h3 : a < c <;> simp only [h1, h2, h3, if_true, if_false] <;> omega
def scan (g : F → Int) (row : List Int) : Nat → Int → F → List Int
  | _, _, .nil => []
  | k, last, .cons y n => mx (mx last (rd row ((k + 1 : Nat) : Int))) (rd row (k : Int) + g y) :: scan g row (k + 1) (mx (mx last (rd row ((k + 1 : Nat) : Int))) (rd row (k : Int) + g y)) n
def rows : F → List Int → F → List Int
  | .nil, row, _ => row
  | .cons x n, row, bs => rows n (0 :: scan (fun y => 1 + rd (rows x (List.replicate (y.len + 1) 0) y) (y.len : Int)) row 0 0 bs) bs
def leaves (x y : F) : Int := 1 + rd (rows x (List.replicate (y.len + 1) 0) y) (y.len : Int)
theorem rows_cons (x n : F) (row : List Int) (bs : F) : rows (.cons x n) row bs = rows n (0 :: scan (leaves x) row 0 0 bs) bs := rfl
theorem scan_len (g : F → Int) (row : List Int) : ∀ (bs : F) (k : Nat) (last : Int), (scan g row k last bs).length = bs.len := by
  intro bs
  induction bs with
  | nil => intro k last; rfl
  | cons y n _ ih => intro k last; simp [scan, ih, F.len]; omega
theorem rows_len : ∀ (a : F) (row : List Int) (bs : F), row.length = bs.len + 1 → (rows a row bs).length = bs.len + 1 := by
  intro a
  induction a with
  | nil => intro row bs h; exact h
  | cons x n _ ih => intro row bs h; rw [rows_cons]; exact ih _ _ (by simp [scan_len])
theorem rd_bound {l : List Int} {M : Int} (hM : 0 ≤ M) (h : ∀ x ∈ l, 0 ≤ x ∧ x ≤ M) (i : Int) : 0 ≤ rd l i ∧ rd l i ≤ M := by
  by_cases hi : i.toNat < l.length
  · unfold rd
    rw [List.getD_eq_getElem?_getD, List.getElem?_eq_getElem hi]
    exact h _ (List.getElem_mem _)
  · unfold rd
    rw [List.getD_eq_getElem?_getD, List.getElem?_eq_none (by omega)]
    exact ⟨Int.le_refl _, hM⟩
theorem scan_bound (g : F → Int) (row : List Int) (M G : Int) (hM : 0 ≤ M) (hG : 0 ≤ G) (hr : ∀ x ∈ row, 0 ≤ x ∧ x ≤ M) (hg : ∀ y, 0 ≤ g y ∧ g y ≤ G) : ∀ (bs : F) (k : Nat) (last : Int), 0 ≤ last → last ≤ M + G → ∀ x ∈ scan g row k last bs, 0 ≤ x ∧ x ≤ M + G := by
  intro bs
  induction bs with
  | nil => intro k last _ _ x hx; simp [scan] at hx
  | cons y n _ ih =>
    intro k last h0 h1 x hx
    have r1 := rd_bound hM hr ((k + 1 : Nat) : Int)
    have r2 := rd_bound hM hr (k : Int)
    have g1 := hg y
    have hv : 0 ≤ mx (mx last (rd row ((k + 1 : Nat) : Int))) (rd row (k : Int) + g y) ∧ mx (mx last (rd row ((k + 1 : Nat) : Int))) (rd row (k : Int) + g y) ≤ M + G := by
      unfold mx; split <;> (try split) <;> omega
    simp only [scan, List.mem_cons] at hx
    rcases hx with rfl | hx
    · exact hv
    · exact ih _ _ hv.1 hv.2 x hx
theorem rows_bound : ∀ (a : F) (row : List Int) (bs : F) (M : Int), 0 ≤ M → (∀ x ∈ row, 0 ≤ x ∧ x ≤ M) → ∀ x ∈ rows a row bs, 0 ≤ x ∧ x ≤ M + a.size := by
  intro a
  induction a with
  | nil => intro row bs M hM h x hx; have := h x hx; simp only [F.size]; omega
  | cons x n hx hn =>
    intro row bs M hM h z hz
    rw [rows_cons] at hz
    have hg : ∀ y, 0 ≤ leaves x y ∧ leaves x y ≤ 1 + x.size := by
      intro y
      have := rd_bound (M := 0 + x.size) (by omega) (hx (List.replicate (y.len + 1) 0) y 0 (by omega) (fun z hz => by rw [List.eq_of_mem_replicate hz]; omega)) (y.len : Int)
      unfold leaves; omega
    have := hn _ bs (M + (1 + x.size)) (by omega) (fun w hw => by
      simp only [List.mem_cons] at hw
      rcases hw with rfl | hw
      · omega
      · exact scan_bound (leaves x) row M (1 + x.size) hM (by omega) h hg bs 0 0 (by omega) (by omega) w hw) z hz
    simp only [F.size]; omega
theorem leaves_bound (x y : F) : 0 ≤ leaves x y ∧ leaves x y ≤ 1 + x.size := by
  have := rd_bound (M := 0 + x.size) (by omega) (rows_bound x (List.replicate (y.len + 1) 0) y 0 (by omega) (fun z hz => by rw [List.eq_of_mem_replicate hz]; omega)) (y.len : Int)
  unfold leaves; omega
end Go.Proofs.Ytpahhheekobneaa.Tr
