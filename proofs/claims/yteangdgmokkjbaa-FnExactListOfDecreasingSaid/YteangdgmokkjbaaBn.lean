/- Binary trees as texts of noughts and ones, and the list that a text tells. Plain mathematics, with no program in sight. -/
import Derived.Test.YteangdgmokkjbaaNd
namespace Go.Proofs.Yteangdgmokkjbaa.Tr
open Go.RowKit Go.Proofs.YteangdgmokkjbaaW.PrintWords
set_option linter.unusedSimpArgs false
set_option linter.unusedVariables false
/-- A text, by its bytes. -/
def B (L : List UInt8) : ByteArray := ⟨⟨L⟩⟩
theorem B_size (L : List UInt8) : (B L).size = L.length := rfl
theorem B_toList (L : List UInt8) : (B L).toList = L := by rw [ByteArray.toList_eq]; rfl
theorem B_of (s : ByteArray) : ∃ L, s = B L := ⟨s.data.toList, rfl⟩
theorem B_bt (L : List UInt8) (j : Nat) (h : j < L.length) : bt (B L) (j : Int) = ((L[j]).toNat : Int) := by
  unfold bt
  rw [dif_pos (by rw [Int.toNat_natCast]; exact h)]
  rfl
theorem B_extract (L : List UInt8) (i j : Nat) : (B L).extract i j = B ((L.take j).drop i) := by
  apply ByteArray.ext
  rw [ByteArray.data_extract]
  apply Array.ext'
  rw [Array.toList_extract]
  simp [B, List.extract_eq_take_drop, List.drop_take]
theorem u8_48 (x : UInt8) : ((x.toNat : Int) = 48) ↔ x = 48 := by
  constructor
  · intro h
    exact UInt8.toNat_inj.mp (by simpa using (by omega : x.toNat = 48))
  · rintro rfl; rfl
theorem u8_49 (x : UInt8) : ((x.toNat : Int) = 49) ↔ x = 49 := by
  constructor
  · intro h
    exact UInt8.toNat_inj.mp (by simpa using (by omega : x.toNat = 49))
  · rintro rfl; rfl
/-- The text of a binary tree. -/
def tx : F → List UInt8
  | F.nil => [48]
  | F.cons l r => 49 :: (tx l ++ tx r)
theorem tx_length (t : F) : (tx t).length = 2 * t.size + 1 := by
  induction t with
  | nil => rfl
  | cons l r ihl ihr => simp only [tx, List.length_cons, List.length_append, F.size, ihl, ihr]; omega
/-- What is left of a text behind so many trees. -/
def en : List UInt8 → Nat → Option (List UInt8)
  | L, 0 => some L
  | [], _ + 1 => none
  | x :: L, n + 1 => if x = 48 then en L n else if x = 49 then en L (n + 2) else none
theorem en_zero (L : List UInt8) : en L 0 = some L := by cases L <;> rfl
theorem en_tx (t : F) : ∀ (M : List UInt8) (n : Nat), en (tx t ++ M) (n + 1) = en M n := by
  induction t with
  | nil => intro M n; show en (48 :: M) (n + 1) = _; rw [en, if_pos rfl]
  | cons l r ihl ihr =>
    intro M n
    show en (49 :: ((tx l ++ tx r) ++ M)) (n + 1) = _
    rw [en, if_neg (by decide), if_pos rfl, List.append_assoc, ihl, ihr]
theorem en_inv : ∀ (L : List UInt8) (n : Nat) (R : List UInt8), en L n = some R → ∃ ts : List F, ts.length = n ∧ L = (ts.map tx).flatten ++ R := by
  intro L
  induction L with
  | nil =>
    intro n R h
    cases n with
    | zero => rw [en_zero] at h; exact ⟨[], rfl, by simpa using Option.some.inj h⟩
    | succ n => simp [en] at h
  | cons x L ih =>
    intro n R h
    cases n with
    | zero => rw [en_zero] at h; exact ⟨[], rfl, by simpa using Option.some.inj h⟩
    | succ n =>
      rw [en] at h
      by_cases h0 : x = 48
      · rw [if_pos h0] at h
        obtain ⟨ts, h1, h2⟩ := ih n R h
        exact ⟨F.nil :: ts, by simp [h1], by rw [h0, h2]; rfl⟩
      · rw [if_neg h0] at h
        by_cases h1 : x = 49
        · rw [if_pos h1] at h
          obtain ⟨ts, h2, h3⟩ := ih (n + 2) R h
          match ts, h2 with
          | a :: b :: ts, h2 => exact ⟨F.cons a b :: ts, by simp at h2 ⊢; omega, by rw [h1, h3]; simp [tx]⟩
        · rw [if_neg h1] at h; cases h
theorem en_whole {L : List UInt8} (h : en L 1 = some []) : ∃ t, L = tx t := by
  obtain ⟨ts, h1, h2⟩ := en_inv L 1 [] h
  match ts, h1 with
  | [t], _ => exact ⟨t, by simpa using h2⟩
theorem en_self (t : F) : en (tx t) 1 = some [] := by have := en_tx t [] 0; rwa [List.append_nil, en_zero] at this
theorem en_le : ∀ (L : List UInt8) (n : Nat) (R : List UInt8), en L n = some R → R.length ≤ L.length := by
  intro L n R h
  obtain ⟨ts, _, h2⟩ := en_inv L n R h
  rw [h2, List.length_append]; omega
theorem tx_ne (l r : F) : tx (F.cons l r) ≠ [48] := by
  intro h
  have := congrArg List.length h
  rw [tx_length] at this
  simp only [F.size, List.length_singleton] at this
  omega
/-- The list of a decreasing tree. -/
def ls : F → Int → List Int
  | F.nil, _ => []
  | F.cons l r, a => ls l (a + r.size) ++ [a + (l.size + r.size + 1 : Nat) - 1] ++ ls r a
theorem ls_length (t : F) : ∀ a, (ls t a).length = t.size := by
  induction t with
  | nil => intro a; rfl
  | cons l r ihl ihr => intro a; simp only [ls, List.length_append, List.length_singleton, ihl, ihr, F.size]; omega
/-- One store and two parts. -/
theorem ls_parts {L X Y : List Int} {f n m : Nat} {x : Int} (hX : X.length = n) (hf : f + (n + m + 1) ≤ L.length) (Q : List Int)
    (hQ : Q = (L.set (f + n) x).take f ++ X ++ (L.set (f + n) x).drop (f + n)) :
    f + n + 1 + m ≤ Q.length ∧ Q.take (f + n + 1) ++ Y ++ Q.drop (f + n + 1 + m) = L.take f ++ (X ++ [x] ++ Y) ++ L.drop (f + (n + m + 1)) := by
  have e1 : (L.set (f + n) x).take f = L.take f := by rw [List.take_set_of_le (by omega)]
  have e2 : (L.set (f + n) x).drop (f + n) = x :: L.drop (f + n + 1) := by
    rw [List.drop_set, if_neg (by omega), Nat.sub_self, List.drop_eq_getElem_cons (show f + n < L.length by omega), List.set_cons_zero]
  rw [e1, e2] at hQ
  have hp : (L.take f ++ X ++ [x]).length = f + n + 1 := by simp [hX]; omega
  have hQ2 : Q = (L.take f ++ X ++ [x]) ++ L.drop (f + n + 1) := by rw [hQ]; simp
  refine ⟨by rw [hQ2, List.length_append, hp, List.length_drop]; omega, ?_⟩
  have t1 : Q.take (f + n + 1) = L.take f ++ X ++ [x] := by rw [hQ2, List.take_append_of_le_length (by omega), List.take_of_length_le (by omega)]
  have t2 : Q.drop (f + n + 1 + m) = L.drop (f + (n + m + 1)) := by
    rw [hQ2, List.drop_append, List.drop_eq_nil_of_le (by omega), hp, List.nil_append, List.drop_drop]
    congr 1; omega
  rw [t1, t2]
  simp
end Go.Proofs.Yteangdgmokkjbaa.Tr
