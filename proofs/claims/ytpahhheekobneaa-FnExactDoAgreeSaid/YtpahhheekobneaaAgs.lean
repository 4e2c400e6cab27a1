/- A slice of slices of numbers, opened: the rows that it leads to. -/
import Derived.Test.YtpahhheekobneaaAgg
import Derived.Deep.Slices
namespace Go.Proofs.Ytpahhheekobneaa.Agg
open Go.ChangeShapes Go.WideShapes Go.ChangeAt Go.RowKit Go.Deep Go.WideElems Go.Joins Go.Proofs.YtpahhheekobneaaW.PrintWords
set_option linter.unusedVariables false

def IsRows (w : World) (a : Option Addr) (len cap : Nat) (l : List (List Int)) : Prop :=
  l.length = len ∧ len ≤ cap ∧ len ≤ maxLen ∧ Kd.C (Kd.slice 2 (Kd.int .i64)) w a l.length l ∧ ∀ x ∈ l, x.length ≤ maxLen
theorem open_rows {H : Type} {enc : TypeId × Value → H} {P : Program} {w : World} {base : Nat} {held : Bool} {t e f : TypeId} {n : Nat} {v0 : Value} {y0 : DataW H × List MemPlace} (ht : P.underlying t = some (.slice e)) (hc1 : P.cellsOf e = 1) (he : P.underlying e = some (.slice f)) (hf : P.underlying f = some (.int .i64)) (hc2 : P.cellsOf f = 1)
    (h : DataW.trod enc P w base (fun _ => true) held n t [v0] = some y0) : ∃ a len cap l, v0 = .slice a len cap ∧ IsRows w a len cap l := by
  rcases open_slice1 ht hc1 h with ⟨hcs, _⟩ | ⟨a, len, cap, m, k, V, D, Pl, hcs, _, hl, hm, hmm, _, hx⟩
  · simp only [List.cons.injEq, and_true] at hcs
    exact ⟨none, 0, 0, [], hcs, rfl, Nat.le_refl _, Nat.zero_le _, ⟨rfl, by simp, fun h => absurd h (by simp)⟩, by simp⟩
  · simp only [List.cons.injEq, and_true] at hcs
    have hmm' : m = cap := by simpa using hmm
    subst hmm'
    obtain ⟨L, hL⟩ := choose_lt (α := List Int) (n := len) (p := fun i l => ∃ A c, V i = .slice A l.length c ∧ l.length ≤ c ∧ Kd.C (Kd.int .i64) w A l.length l ∧ l.length ≤ maxLen) (fun i hi => by
      obtain ⟨_, h2⟩ := hx i (by omega)
      obtain ⟨A, ln, c, zs, hv, hr⟩ := open_row he hf hc2 h2
      obtain ⟨l, rfl, hr0, hm0, hw0, hc0⟩ := ReadsInt.ofRowC hr
      exact ⟨l, A, c, hv, hc0, Kd.C_of_reads (d := (0 : Int)) (h1 := fun _ => rfl) hr0, hm0⟩)
    refine ⟨some a, len, m, (List.range len).map L, hcs, by simp, hl, by omega, ⟨rfl, by unfold maxLen at hm; simp; omega, fun _ => ⟨a, rfl, fun j p hj => ?_⟩⟩, ?_⟩
    · obtain ⟨hj1, hj2⟩ := List.getElem?_eq_some_iff.1 hj
      simp only [List.length_map, List.length_range] at hj1
      simp only [List.getElem_map, List.getElem_range] at hj2
      subst hj2
      obtain ⟨A, c, hv, hle, hC, _⟩ := hL j hj1
      refine ⟨[V j], rfl, ⟨A, c, by rw [hv], hle, hC⟩, fun i u hu => ?_⟩
      cases i with
      | zero =>
        simp only [List.getElem?_cons_zero, Option.some.injEq] at hu
        subst hu
        rw [show j * (Kd.slice 2 (Kd.int .i64)).sz + 0 = j from Nat.mul_one _]
        exact (hx j (by omega)).1
      | succ i => simp at hu
    · intro x hx'
      simp only [List.mem_map, List.mem_range] at hx'
      obtain ⟨j, hj, rfl⟩ := hx'
      obtain ⟨A, c, _, _, _, hmx⟩ := hL j hj
      exact hmx
end Go.Proofs.Ytpahhheekobneaa.Agg
