/- A row of the call's own into which something has been put: what is held behind it; overlaps where the second row is plain. -/
import Derived.Test.YteangdgmokkjbabGl
import Derived.Shelf.Spec.SlicesInsertGrow
namespace Go.Proofs.Yteangdgmokkjbab.Gl
open Go.RowKit Go.Proofs.YteangdgmokkjbabW.PrintWords Go.Proofs.YteangdgmokkjbabW.PrintLast Go.Proofs.YteangdgmokkjbabW.PrintMore
set_option linter.unusedVariables false
set_option linter.unusedSimpArgs false

theorem blk_setCells (g : Nat) (t : TypeId) : ∀ (vs : List Value) (o : Nat) (w : World) (L : List Value), w.heap[g]? = some (.cells L.toArray t (0, 0)) → o + vs.length ≤ L.length →
    (w.setCells g o vs).heap[g]? = some (.cells (L.take o ++ vs ++ L.drop (o + vs.length)).toArray t (0, 0))
  | [], o, w, L, h, _ => by simpa [World.setCells] using h
  | v :: r, o, w, L, h, hl => by
    simp only [List.length_cons] at hl
    have h1 : (w.setCell ⟨g, o, none⟩ v).heap[g]? = some (.cells (L.set o v).toArray t (0, 0)) := by
      show (w.heap.modify g _)[g]? = _
      rw [Array.getElem?_modify, if_pos rfl, h]
      simp
    have h2 := blk_setCells g t r (o + 1) (w.setCell ⟨g, o, none⟩ v) (L.set o v) h1 (by simp; omega)
    rw [World.setCells, h2]
    have e1 : (L.set o v).take (o + 1) = L.take o ++ [v] := by
      rw [List.take_set]
      have hlt : o < L.length := by omega
      rw [List.take_succ_eq_append_getElem hlt, List.set_append_right _ _ (by simp [Nat.min_def]; split <;> omega)]
      simp [List.length_take, Nat.min_eq_left (Nat.le_of_lt hlt)]
    have e2 : (L.set o v).drop (o + 1 + r.length) = L.drop (o + (v :: r).length) := by
      rw [List.drop_set_of_lt (by omega)]
      simp only [List.length_cons]
      rw [show o + 1 + r.length = o + (r.length + 1) by omega]
    rw [e1, e2]
    simp

theorem setCells_kept (g : Nat) : ∀ (vs : List Value) (o : Nat) (w : World), (w.setCells g o vs).os = w.os ∧ (w.setCells g o vs).tape = w.tape ∧ (w.setCells g o vs).output = w.output ∧ (w.setCells g o vs).heap.size = w.heap.size ∧ ∀ k, k ≠ g → (w.setCells g o vs).heap[k]? = w.heap[k]?
  | [], o, w => ⟨rfl, rfl, rfl, rfl, fun _ _ => rfl⟩
  | v :: r, o, w => by
    obtain ⟨h1, h2, h3, h4, h5⟩ := setCells_kept g r (o + 1) (w.setCell ⟨g, o, none⟩ v)
    refine ⟨h1, h2, h3, ?_, fun k hk => ?_⟩
    · rw [World.setCells, h4]; simp [World.setCell]
    · rw [World.setCells, h5 k hk]
      show (w.heap.modify g _)[k]? = _
      rw [Array.getElem?_modify, if_neg (fun e => hk e.symm)]

/-- The cells of a row into which x has been put at i. -/
theorem ins_cells {L T : List Value} {l : List Int} {n i : Nat} (x : Int) (hn : n = l.length) (hi : i ≤ n) (hT : T = encs EI (l.drop i)) (hH : L.take i = encs EI (l.take i)) (hLl : n + 1 ≤ L.length) :
    (L.take (i + 1) ++ T ++ L.drop (i + 1 + T.length)).take i ++ [EI x] ++ (L.take (i + 1) ++ T ++ L.drop (i + 1 + T.length)).drop (i + 1) = encs EI (l.take i ++ [x] ++ l.drop i) ++ L.drop (n + 1) := by
  have hTl : T.length = n - i := by rw [hT]; simp [encs, ← hn]
  have h1 : (L.take (i + 1)).length = i + 1 := by rw [List.length_take, Nat.min_eq_left (by omega)]
  have e1 : (L.take (i + 1) ++ T ++ L.drop (i + 1 + T.length)).take i = encs EI (l.take i) := by
    rw [List.append_assoc, List.take_append_of_le_length (by omega), List.take_take, Nat.min_eq_left (by omega), hH]
  have e2 : (L.take (i + 1) ++ T ++ L.drop (i + 1 + T.length)).drop (i + 1) = T ++ L.drop (n + 1) := by
    rw [List.append_assoc, List.drop_append, h1, Nat.sub_self, List.drop_eq_nil_of_le (by omega), List.drop_zero, List.nil_append, hTl, show i + 1 + (n - i) = n + 1 by omega]
  rw [e1, e2, hT]
  simp [encs]

/-- .. into a row that has been made for it. -/
theorem ins_cells2 {L T : List Value} {l : List Int} {n i : Nat} (x : Int) (hn : n = l.length) (hi : i ≤ n) (hT : T = encs EI (l.drop i)) (hH : L.take i = encs EI (l.take i)) (hLl : n + 1 ≤ L.length) :
    (L.take i ++ [EI x] ++ L.drop (i + 1)).take (i + 1) ++ T ++ (L.take i ++ [EI x] ++ L.drop (i + 1)).drop (i + 1 + T.length) = encs EI (l.take i ++ [x] ++ l.drop i) ++ L.drop (n + 1) := by
  have hTl : T.length = n - i := by rw [hT]; simp [encs, ← hn]
  have h1 : (L.take i ++ [EI x]).length = i + 1 := by rw [List.length_append, List.length_take, Nat.min_eq_left (by omega)]; rfl
  have e1 : (L.take i ++ [EI x] ++ L.drop (i + 1)).take (i + 1) = encs EI (l.take i) ++ [EI x] := by
    rw [List.take_append_of_le_length (by omega), List.take_of_length_le (by omega), hH]
  have e2 : (L.take i ++ [EI x] ++ L.drop (i + 1)).drop (i + 1 + T.length) = L.drop (n + 1) := by
    rw [List.drop_append, h1, List.drop_eq_nil_of_le (by omega), List.nil_append, List.drop_drop, hTl, show i + 1 + (i + 1 + (n - i) - (i + 1)) = n + 1 by omega]
  rw [e1, e2, hT]
  simp [encs]

theorem run_overlaps_plain {P : Program} (w : World) (tS tR e : TypeId) (ht : P.underlying tS = some (.slice e)) (size : Nat) (hz : ∀ w, (Go.sizeOf e).run P w = .ok size w)
    (a b : Addr) (la ca lb cb : Nat) (hne : a.block ≠ b.block) (tA tB : TypeId) (kA kB : Nat)
    (hsa : w.shape? a.block = some (tA, kA)) (hsb : w.shape? b.block = some (tB, kB)) (hkA : kA ≠ 0)
    (hfb : ∀ j, w.frozen? { block := b.block, off := j, spot := none } = false) (hsp : b.spot = none) :
    (Extern.SlicesOverlaps.overlaps #[tS, tS] #[tR] #[.slice (some a) la ca, .slice (some b) lb cb]).run P w = .ok (.bool false) w := by
  have hnb : (a.block != b.block) = true := by simpa using hne
  have hnb' : (a.block == b.block) = false := by simpa using hne
  have hfb0 : w.frozen? b = false := by
    have := hfb b.off
    rw [← hsp] at this
    exact this
  have hfb1 := hfb kB
  change Sem.run P (α := Value) (do
    let some t := (#[tS, tS] : Array TypeId)[0]? | stuck "slices.overlaps: no parameter types"
    let .slice elem ← underlying t | stuck "slices.overlaps: slice type expected"
    let size ← sizeOf elem
    match (some a : Option Addr), (some b : Option Addr) with
    | some a, some b =>
      if la = 0 ∨ lb = 0 ∨ size = 0 then pure (Value.bool false)
      else if a.block != b.block && (← frozen a) && (← frozen b) then unsupported .addressObserved
      else do
        if a.block != b.block then do
          noView a; noView b
          if ← mayBeOne a b then return Value.bool ((← choose (.extern "sameAddr.stringBytes" 2)) == 1)
        pure (Value.bool (a.block == b.block && a.off < b.off + lb * size && b.off < a.off + la * size))
    | _, _ => pure (Value.bool false)) w = _
  by_cases h0 : la = 0 ∨ lb = 0 ∨ size = 0
  · simp [run_underlying ht, hz, h0]
  · cases kA with
    | zero => exact absurd rfl hkA
    | succ kA =>
      cases hfa : w.frozen? a <;> cases hfe : w.frozen? { block := a.block, off := kA + 1, spot := none } <;>
        simp [run_underlying ht, hz, h0, hnb, hnb', frozen, noView, viewAt, mayBeOne, stringish, shape, Sem.run, hsa, hsb, hfa, hfe, hfb0, hfb1]

theorem ins_done {w0 w W : World} {P0 : Nat → Prop} {g cap : Nat} {s : List Int} {rest : List Value} (hos : W.os = w.os) (htape : W.tape = w.tape) (hout : W.output = w.output) (hsz : w.heap.size ≤ W.heap.size)
    (hblk : ∀ k, k < w.heap.size → k ≠ g → W.heap[k]? = w.heap[k]?) (hg : W.heap[g]? = some (.cells (encs EI s ++ rest).toArray 2 (0, 0))) (hcap : s.length + rest.length = cap) (hc : cap ≤ maxLen)
    (hbase : w0.heap.size ≤ g) (hp : P0 g ∨ w.heap.size ≤ g) (hB : Below w0.heap.size w0 w) :
    (Kd.int .i64).R 2 W w0.heap.size (fun k_ => (P0 k_ ∨ w.heap.size ≤ k_)) (.slice (some ⟨g, 0, none⟩) s.length cap) s ∧ Below w0.heap.size w0 W ∧ Kept w W (fun k_ => P0 k_) := by
  refine ⟨?_, ⟨hos.trans hB.os, htape.trans hB.tape, hout.trans hB.output, Nat.le_trans hB.size hsz, fun k hk => ?_⟩, ⟨hsz, fun k hk hn => ?_⟩⟩
  · refine Kd.R_of_own ?_ (fun k hk => by simp [Value.ownBlock] at hk; subst hk; exact hp)
    refine ⟨by simp [encs], .inr ⟨g, cap, _, rfl, hbase, hg, by omega, hc, by simp [encs, hcap], ?_⟩⟩
    simp [encs]
  · rw [hblk k (by have := hB.size; omega) (by omega)]
    exact hB.block k hk
  · rcases hp with hp | hp
    · exact hblk k hk (fun e => hn (by rw [e]; exact hp))
    · exact hblk k hk (by omega)
end Go.Proofs.Yteangdgmokkjbab.Gl
