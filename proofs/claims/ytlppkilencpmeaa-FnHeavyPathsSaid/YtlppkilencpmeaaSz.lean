/- Short words of the walks: what holds of rows, blocks and worlds is carried on by instances; closing steps that stand often in the printed texts, each said once. -/
import Derived.Test.YtlppkilencpmeaaGl
import Derived.Test.YtlppkilencpmeaaWApart
namespace Go.Proofs.Ytlppkilencpmeaa.Sz
open Go.RowKit Go.Proofs.YtlppkilencpmeaaW.PrintWords Go.Proofs.YtlppkilencpmeaaW.PrintLast Go.Proofs.YtlppkilencpmeaaW.PrintMore
set_option linter.unusedVariables false
/-- The world is the old one, objects having been made and orders drawn. -/
structure Lp (w w' : World) : Prop where
 b : Below w.heap.size w w'
instance lpr (w : World) : Nonempty (Lp w w) := ⟨⟨Below.refl _ _⟩⟩
instance lpa (w w' : World) (o : Obj) [h : Nonempty (Lp w w')] : Nonempty (Lp w (w'.alloc o)) := h.elim fun q => ⟨⟨below_alloc q.b o⟩⟩
instance lpn (w w' : World) (m : Nat) [h : Nonempty (Lp w w')] : Nonempty (Lp w (w'.drewN m)) := h.elim fun q => ⟨⟨pw_below_drewN q.b m⟩⟩
instance lpd (w w' : World) [h : Nonempty (Lp w w')] : Nonempty (Lp w w'.drew) := h.elim fun q => ⟨⟨below_drew1 q.b⟩⟩
section
variable {α β : Type} {d : Kd α} {d' : Kd β} {e e' g n : Nat} {w w' w1 W : World} {base b : Nat} {ok ok' okv oku : Nat → Prop} {u v : Value} {xs : List α} {ys : List β} {o : Obj} {A : Option Addr}
theorem pe (h : d.R e w base ok v xs) [q : Nonempty (Lp w w')] : d.R e w' base ok v xs := q.elim fun q => Kd.R_below h q.b
theorem ps (h : Kd.S d e w base ok v xs) [q : Nonempty (Lp w w')] : Kd.S d e w' base ok v xs := q.elim fun q => Kd.S_below h q.b
theorem pc (h : d.C w A n xs) [q : Nonempty (Lp w w')] : d.C w' A n xs := q.elim fun q => Kd.C_below h q.b
theorem pb (h : w.heap[g]? = some o) [q : Nonempty (Lp w w')] : w'.heap[g]? = some o := q.elim fun q => blk_below h q.b
/-- The same, a call having come behind. -/
theorem rb (h : Aside0 (d.R e w base ok v xs)) (hb : Below w'.heap.size w' w1) [q : Nonempty (Lp w w')] : Aside0 (d.R e w1 base ok v xs) := ⟨Kd.R_below (pe h.out) hb⟩
theorem sb (h : Aside0 (Kd.S d e w base ok v xs)) (hb : Below w'.heap.size w' w1) [q : Nonempty (Lp w w')] : Aside0 (Kd.S d e w1 base ok v xs) := ⟨Kd.S_below (ps h.out) hb⟩
theorem bb (h : Aside0 (w.heap[g]? = some o)) (hb : Below w'.heap.size w' w1) [q : Nonempty (Lp w w')] : Aside0 (w1.heap[g]? = some o) := ⟨blk_below (pb h.out) hb⟩
/-- The same, a call having come behind that makes a row of its own. -/
theorem rn (h : Aside0 (d.R e w base ok u xs)) (ho : Kd.R d' e' w1 w'.heap.size okv v ys) (hb : Below w'.heap.size w' w1) [q : Nonempty (Lp w w')] : Aside0 (d.R e w1 base (fun k => ok k ∧ some k ≠ v.ownBlock) u xs) := ⟨Kd.R_elder' (pe h.out) (Kd.R_base ho) hb⟩
theorem sn (h : Aside0 (Kd.S d e w base ok u xs)) (ho : Kd.R d' e' w1 w'.heap.size okv v ys) (hb : Below w'.heap.size w' w1) [q : Nonempty (Lp w w')] : Aside0 (Kd.S d e w1 base (fun k => ok k ∧ some k ≠ v.ownBlock) u xs) := ⟨Kd.S_elder' (ps h.out) (Kd.R_base ho) hb⟩
/-- A block of another type has been written. -/
theorem rf (h : Aside0 (d.R e w base ok v xs)) {t : Nat} {cells : Array Value} (hb : Aside0 (w.heap[g]? = some (.cells cells t (0, 0)))) (u : Value) (ht : ∀ q, q ∈ e :: d.E → q ≠ t := by decide) : d.R e (w.setCell ⟨g, 0, none⟩ u) base ok v xs :=
  Kd.R_mono (Kd.R_far (p := ⟨g, 0, none⟩) (Kd.R_types h.out hb.out ht) (fun _ hk => hk.2) u) (fun _ h_ => h_.1)
theorem sf (h : Aside0 (Kd.S d e w base ok v xs)) {t : Nat} {cells : Array Value} (hb : Aside0 (w.heap[g]? = some (.cells cells t (0, 0)))) (u : Value) (ht : ∀ q, q ∈ e :: d.E → q ≠ t := by decide) : Kd.S d e (w.setCell ⟨g, 0, none⟩ u) base ok v xs :=
  Kd.S_mono (Kd.S_far (p := ⟨g, 0, none⟩) (Kd.S_types h.out hb.out ht) (fun _ hk => hk.2) u) (fun _ h_ => h_.1)
/-- What has just been made is not older. -/
theorem geb (hg : g = W.heap.size) (h : Below w.heap.size w W) : w.heap.size ≤ g := by rw [hg]; exact below_size h
theorem nel {x : Nat} (hg : g = W.heap.size) (h : x < W.heap.size) : x ≠ g := by rw [hg]; exact Nat.ne_of_lt h
theorem neg {x : Nat} (hg : g = W.heap.size) (h : x < W.heap.size) : g ≠ x := by rw [hg]; exact Nat.ne_of_gt h
end
/-- The world is above the one at the start (its name: HB). -/
theorem hq {P : Prop} (h : P := by repeat (first | (with_reducible first | exact HB.out | apply below_alloc | apply pw_below_drewN | apply below_drew1 | refine below_set ?_ (Aside0.out (by with_reducible assumption))) | exact HB.out)) : P := h
/-- The arguments are these. -/
theorem am {P : Prop} (h : P := by (try simp only [List.map_toArray, List.map_cons, List.map_nil]); first | done | rfl | (simp only [List.length_drop, List.length_take]; rfl)) : P := h
/-- Nothing but orders drawn. -/
theorem dn {P : Prop} (h : P := by first | exact ⟨rfl, _, World.drewN_drewN _ _ _⟩ | exact ⟨rfl, _, Eq.trans (World.drewN_drewN _ _ _) (congrArg (World.drewN _) (Nat.add_assoc _ _ _))⟩) : P := h
/-- The operation runs so. -/
theorem gs {P : Prop} (h : P := by first | (go_simp; done) | (go_simp; rfl)) : P := h
/-- What is told is this. -/
theorem ew {P : Prop} (h : P := by first | rfl | (simp [errW_none, errW_some] <;> rfl) | (simp [*, errW_none, errW_some] <;> rfl)) : P := h
end Go.Proofs.Ytlppkilencpmeaa.Sz
