/- Functions as Lean functions, with their contracts: written by a program of this claim over the translation; some contracts are proved by hand. -/
import Derived.Test.YtlppkilencpmeaaQFnTopx0
import Derived.Test.YtlppkilencpmeaaQFnTopx3
import Derived.Test.YtlppkilencpmeaaQFnTopx7
import Derived.Test.YtlppkilencpmeaaQFnTopx9
namespace Go.Proofs.Ytlppkilencpmeaa.QFnTop
open Go.RowKit Go.Proofs.Ytlppkilencpmeaa.Gl Go.Proofs.YtlppkilencpmeaaW.PrintWords Go.Proofs.YtlppkilencpmeaaW.PrintLast Go.Proofs.YtlppkilencpmeaaW.PrintMore
attribute [local go_sem] max2_int min2_int max_two min_two max_three min_three max_four min_four   -- for this text's walks alone
set_option linter.unusedVariables false
set_option linter.unusedSimpArgs false

/-! ### impl_inCommon: function 88 -/

/-- A literal of two rows. -/
theorem C_rows2 {w : World} {g : Nat} {A B : Option Addr} {ca cb : Nat} {x y : List Int} (h0 : w.cell? ⟨g, 0, none⟩ = some (.slice A x.length ca)) (h1 : w.cell? ⟨g, 1, none⟩ = some (.slice B y.length cb)) (hx : Kd.C (Kd.int .i64) w A x.length x) (hxc : x.length ≤ ca) (hy : Kd.C (Kd.int .i64) w B y.length y) (hyc : y.length ≤ cb) :
  Kd.C (Kd.slice 2 (Kd.int .i64)) w (some ⟨g, 0, none⟩) [x, y].length [x, y] := by
 refine ⟨rfl, (by decide : 2 ≤ 9223372036854775807), fun _ => ⟨_, rfl, fun j p hj => ?_⟩⟩
 match j, hj with
 | 0, hj =>
  simp at hj; subst hj
  refine ⟨[.slice A x.length ca], rfl, ⟨A, ca, rfl, hxc, hx⟩, fun i u hu => ?_⟩
  match i, hu with
  | 0, hu => simp at hu; subst hu; rw [add_plain]; exact h0
  | i + 1, hu => simp at hu
 | 1, hj =>
  simp at hj; subst hj
  refine ⟨[.slice B y.length cb], rfl, ⟨B, cb, rfl, hyc, hy⟩, fun i u hu => ?_⟩
  match i, hu with
  | 0, hu => simp at hu; subst hu; rw [add_plain]; exact h1
  | i + 1, hu => simp at hu
 | j + 2, hj => simp at hj
/-- The roots below each node. -/
def kidsL (t : Tr.F) : List (List Int) := (List.range t.size).map fun v => (t.sub v).roots (v + 1)
theorem kidsL_len (t : Tr.F) : (kidsL t).length = t.size := by simp [kidsL]
theorem kidsL_at {t : Tr.F} {v : Nat} (h : v < t.size) : (kidsL t).getD v [] = (t.sub v).roots (v + 1) := by
 simp [kidsL, List.getD_eq_getElem?_getD, h]
def Keeps (gm : Nat) (w : World) (P : World → Prop) : Prop := ∀ W', Kept w W' (fun k_ => k_ = gm) → P W'
theorem Keeps.step {gm : Nat} {w w' : World} {P : World → Prop} (h : Keeps gm w P) (hk : Kept w w' (fun k_ => k_ = gm)) : Keeps gm w' P := fun W' hk' => h W' (hk.then_ hk' (fun _ h => .inl h))
theorem Keeps.now {gm : Nat} {w : World} {P : World → Prop} (h : Keeps gm w P) : P w := h w (Kept.refl _ _)
theorem Keeps.below {gm : Nat} {w w' : World} {P : World → Prop} (h : Keeps gm w P) (hb : Below w.heap.size w w') : Keeps gm w' P := h.step (Kept.of_below hb _)
/-- One row of a table that keeps. -/
theorem Keeps.row {gm : Nat} {w : World} {A : Option Addr} {n : Nat} {xs : List (List Int)} {o : Obj} (hm : w.heap[gm]? = some o) (hmc : ∀ j, w.cell? ⟨gm, j, none⟩ = none) (h : Keeps gm w (fun W => Kd.C (Kd.slice 2 (Kd.int .i64)) W A n xs)) (i : Nat) (hi : i < n) :
  ∃ ad A0 c0, A = some ad ∧ ad.block ≠ gm ∧ w.cell? (ad.add i) = some (.slice A0 (xs.getD i []).length c0) ∧ (xs.getD i []).length ≤ c0 ∧ Keeps gm w (fun W => Kd.C (Kd.int .i64) W A0 (xs.getD i []).length (xs.getD i [])) := by
 obtain ⟨ad, A0, c0, e, hx, hl, _⟩ := slices_Concat.row h.now i hi
 have hbl : (ad.add i).block = ad.block := by unfold Addr.add; split <;> (try split) <;> rfl
 have hne : ad.block ≠ gm := by
  intro e2
  have := hx
  unfold World.cell? at this
  rw [hbl, e2] at this
  have h0 := hmc (ad.add i).off
  unfold World.cell? at h0
  simp only at h0
  split at this
  ·rename_i h3
   rw [h3] at h0
   simp_all
  ·cases this
 refine ⟨ad, A0, c0, e, hne, hx, hl, fun W' hk => ?_⟩
 obtain ⟨ad', A1, c1, e1, hx1, _, hC1⟩ := slices_Concat.row (h W' hk) i hi
 rw [e] at e1
 injection e1 with e1
 subst e1
 have := cell_kept hx hk (by rw [hbl]; exact hne)
 rw [this] at hx1
 injection hx1 with hx1
 injection hx1 with hx1
 subst hx1
 exact hC1

set_option maxHeartbeats 8000000 in
set_option maxRecDepth 100000 in
theorem without_ (gm : Nat) (o : Obj) (At Af : Option Addr) (ct cf : Nat) (t : Tr.F) (l : List Int) (v : Nat) (w : World) (hv : v < t.size) (ht : t.size ≤ 24) (hll : l.length ≤ 1000) (hm : w.heap[gm]? = some o) (hmc : ∀ j, w.cell? ⟨gm, j, none⟩ = none)
  (hct : t.size ≤ ct) (hT : Keeps gm w (fun W => Kd.C (Kd.slice 2 (Kd.int .i64)) W At t.size (kidsL t))) (hcf : l.length + 1 ≤ cf) (hF : Kd.C (Kd.int .i64) w Af (l.length + 1) (l ++ [(v : Int)])) :
  Calls Try.prog 107 #[.slice At t.size ct, .slice Af (l.length + 1) cf] w fun e w' => ∃ Ak ck Ao co, e = .returned (.tuple #[.slice Af l.length l.length, .slice Ak ((t.sub v).roots (v + 1)).length ck, .slice Ao (l ++ (t.sub v).roots (v + 1)).length co]) ∧ ((t.sub v).roots (v + 1)).length ≤ ck ∧ Keeps gm w (fun W => Kd.C (Kd.int .i64) W Ak ((t.sub v).roots (v + 1)).length ((t.sub v).roots (v + 1))) ∧ Kd.R (Kd.int .i64) 2 w' w.heap.size (fun _ => True) (.slice Ao (l ++ (t.sub v).roots (v + 1)).length co) (l ++ (t.sub v).roots (v + 1)) ∧ Below w.heap.size w w' := by
 obtain ⟨ad, Ak, ck, rfl, hne, hx, hck, hK⟩ := Keeps.row hm hmc hT v hv
 rw [kidsL_at hv] at hx hck hK
 obtain ⟨adf, e1, hxf⟩ := Kd.at_int hF ((l.length : Nat) : Int) (Int.natCast_nonneg _) (by omega)
 subst e1
 have hrd : rd (l ++ [(v : Int)]) ((l.length : Nat) : Int) = (v : Int) := by rw [Tr.rd_app0]; exact Tr.rd_cons0 _ _
 rw [hrd, Int.toNat_natCast] at hxf
 have hkl : ((t.sub v).roots (v + 1)).length ≤ 24 := by
  have h1 := Tr.F.roots_len (t.sub v) (v + 1)
  have h2 := Tr.F.len_le (t.sub v)
  have h3 := Tr.F.sub_fits t v hv
  omega
 obtain ⟨ks, hks⟩ : ∃ ks, ks = (t.sub v).roots (v + 1) := ⟨_, rfl⟩
 rw [← hks] at hx hck hK hkl ⊢
 obtain ⟨n, hn⟩ : ∃ n, n = l.length := ⟨_, rfl⟩
 have HCC := Aside0.mk (show slices_Concat.f [l, ks] = some (l ++ ks) from by unfold slices_Concat.f; rw [if_pos ⟨(by decide : 2 ≤ 1000), by simp; omega⟩]; simp)
 have hCl : Kd.C (Kd.int .i64) w (some adf) l.length l := by
  have := Kd.C_take (xs := l ++ [(v : Int)]) (m := l.length) (by simpa using hF) (by simp)
  simpa using this
 rw [← hn] at hxf hcf ⊢
 have hw1 : wrap64 (((n + 1 : Nat) : Int) - 1) = (n : Int) := by unfold wrap64; omega
 have hw2 : wrap64 ((n : Int) + 1 - 1) = (n : Int) := by clear hw1; unfold wrap64; omega
 have hw3 : wrap64 (n : Int) = (n : Int) := by clear hw1 hw2; unfold wrap64; omega
 have hnc : (n : Int) ≤ (cf : Int) := by clear hw1 hw2 hw3; omega
 have hn0 : (0 : Int) ≤ (n : Int) := Int.natCast_nonneg n
 have hmx : max (n : Int) 0 = (n : Int) := by clear hw1 hw2 hw3; omega
 have hlt1 : n < n + 1 := Nat.lt_succ_self n
 have hle1 : n ≤ n + 1 := Nat.le_succ n
 have hlec : n ≤ cf := by clear hw1 hw2 hw3; omega
 have hlt2 : (n : Int) < ((n + 1 : Nat) : Int) := by clear hw1 hw2 hw3; omega
 have hlt3 : (n : Int) ≤ ((n + 1 : Nat) : Int) := by clear hw1 hw2 hw3; omega
 have hlt4 : (n : Int) < (n : Int) + 1 := by clear hw1 hw2 hw3; omega
 have hvv : (v : Int) < (t.size : Int) := by clear hw1 hw2 hw3; omega
 have HK := Aside0.mk hK
 have HCL := Aside0.mk hCl
 have HN := Aside0.mk hn
 have HCK := Aside0.mk hck
 have HLC := Aside0.mk hlec
 clear hT hF hK hCl hrd hn hks hkl hll ht hm hmc hct hck
 go_enter Try.func107, Try.ntmps107
 go_wp2
 refine start_ (n := 26) (S := fun w' => w'.cell? (adf.add n) = some (.int .i64 (v : Int)) ∧ w'.cell? (ad.add v) = some (.slice Ak ks.length ck)) (ds := []) #[false, false, false, false, false, false, false, false, false, false, false, false, false, false, false, false, false, false, false, false, false, false, false, false, false, false] (by kernel_rfl) rfl rfl (⟨hxf, hx⟩) (fun hHeld => ?_)
 refine pure_ (i := 0) (N := some 11) (v := ?_) (a' := ?_) (tf 1 25) rfl rfl (by kernel_rfl) (fun _ _ _ h => h) (Or.inl ⟨by rfl, ?_⟩) ?_ ?_
 rotate_left
 ·intro w'
  go_simp
  with_reducible rfl
 rotate_left
 ·simp only [Act.put, sIB, sc0, scs, i64_w, i32_w]
  rfl
 refine pure_ (i := 1) (N := some 12) (v := ?_) (a' := ?_) (tf 2 24) rfl rfl (by kernel_rfl) (fun _ _ _ h => h) (Or.inl ⟨by rfl, ?_⟩) ?_ ?_
 rotate_left
 ·intro w'
  go_simp
  with_reducible rfl
 rotate_left
 ·simp only [Act.put, sIB, sc0, scs, i64_w, i32_w]
  rfl
 refine pure_ (i := 2) (N := some 13) (v := ?_) (a' := ?_) (tf 3 23) rfl rfl (by kernel_rfl) (fun _ _ _ h => h) (Or.inl ⟨by rfl, ?_⟩) ?_ ?_
 rotate_left
 ·intro w'
  go_simp
  with_reducible rfl
 rotate_left
 ·simp only [Act.put, sIB, sc0, scs, i64_w, i32_w]
  rfl
 refine pure_ (i := 3) (N := some 14) (v := ?_) (a' := ?_) (tf 4 22) rfl rfl (by kernel_rfl) (fun _ _ _ h => h) (Or.inl ⟨by rfl, ?_⟩) ?_ ?_
 rotate_left
 ·intro w'
  go_simp
  with_reducible rfl
 rotate_left
 ·simp only [Act.put, sIB, sc0, scs, i64_w, i32_w]
  rfl
 refine pure_ (i := 4) (N := some 15) (v := ?_) (a' := ?_) (tf 5 21) rfl rfl (by kernel_rfl) (fun _ _ _ h => h) (Or.inl ⟨by rfl, ?_⟩) ?_ ?_
 rotate_left
 ·intro w'
  go_simp
  with_reducible rfl
 rotate_left
 ·simp only [Act.put, sIB, sc0, scs, i64_w, i32_w]
  rfl
 refine pure_ (i := 5) (N := some 16) (v := ?_) (a' := ?_) (tf 6 20) rfl rfl (by kernel_rfl) (fun _ _ _ h => h) (Or.inl ⟨by rfl, ?_⟩) ?_ ?_
 rotate_left
 ·intro w'
  go_simp
  with_reducible rfl
 rotate_left
 ·simp only [Act.put, sIB, sc0, scs, i64_w, i32_w]
  rfl
 refine pure_ (i := 6) (N := some 17) (v := ?_) (a' := ?_) (tf 7 19) rfl rfl (by kernel_rfl) (fun _ _ _ h => h) (Or.inl ⟨by rfl, ?_⟩) ?_ ?_
 rotate_left
 ·intro w'
  go_simp
  with_reducible rfl
 rotate_left
 ·simp only [Act.put, sIB, sc0, scs, i64_w, i32_w]
  rfl
 refine pure_ (i := 7) (N := some 18) (v := ?_) (a' := ?_) (tf 8 18) rfl rfl (by kernel_rfl) (fun _ _ _ h => h) (Or.inl ⟨by rfl, ?_⟩) ?_ ?_
 rotate_left
 ·intro w'
  go_simp
  with_reducible rfl
 rotate_left
 ·simp only [Act.put, sIB, sc0, scs, i64_w, i32_w]
  rfl
 refine pure_ (i := 11) (N := some 22) (v := ?_) (a' := ?_) #[true, true, true, true, true, true, true, true, false, false, false, true, false, false, false, false, false, false, false, false, false, false, false, false, false, false] rfl rfl (by kernel_rfl) (fun _ _ _ h => h) (Or.inl ⟨by rfl, ?_⟩) ?_ ?_
 rotate_left
 ·intro w'
  go_simp
  with_reducible rfl
 rotate_left
 ·simp only [Act.put, sIB, sc0, scs, i64_w, i32_w]
  rfl
 refine pure_ (i := 12) (N := some 23) (v := ?_) (a' := ?_) #[true, true, true, true, true, true, true, true, false, false, false, true, true, false, false, false, false, false, false, false, false, false, false, false, false, false] rfl rfl (by kernel_rfl) (fun _ _ _ h => h) (Or.inl ⟨by rfl, ?_⟩) ?_ ?_
 rotate_left
 ·intro w'
  go_simp
  with_reducible rfl
 rotate_left
 ·simp only [Act.put, sIB, sc0, scs, i64_w, i32_w]
  rfl
 refine pure_ (i := 13) (N := some 24) (v := ?_) (a' := ?_) #[true, true, true, true, true, true, true, true, false, false, false, true, true, true, false, false, false, false, false, false, false, false, false, false, false, false] rfl rfl (by kernel_rfl) (fun _ _ _ h => h) (Or.inl ⟨by rfl, ?_⟩) ?_ ?_
 rotate_left
 ·intro w'
  go_simp
  with_reducible rfl
 rotate_left
 ·simp only [Act.put, sIB, sc0, scs, i64_w, i32_w]
  rfl
 refine pure_ (i := 14) (N := some 25) (v := ?_) (a' := ?_) #[true, true, true, true, true, true, true, true, false, false, false, true, true, true, true, false, false, false, false, false, false, false, false, false, false, false] rfl rfl (by kernel_rfl) (fun _ _ _ h => h) (Or.inl ⟨by rfl, ?_⟩) ?_ ?_
 rotate_left
 ·intro w'
  go_simp
  with_reducible rfl
 rotate_left
 ·simp only [Act.put, sIB, sc0, scs, i64_w, i32_w]
  rfl
 refine pure_ (i := 15) (N := some 26) (v := ?_) (a' := ?_) #[true, true, true, true, true, true, true, true, false, false, false, true, true, true, true, true, false, false, false, false, false, false, false, false, false, false] rfl rfl (by kernel_rfl) (fun _ _ _ h => h) (Or.inl ⟨by rfl, ?_⟩) ?_ ?_
 rotate_left
 ·intro w'
  go_simp
  with_reducible rfl
 rotate_left
 ·simp only [Act.put, sIB, sc0, scs, i64_w, i32_w]
  rfl
 refine pure_ (i := 16) (N := some 27) (v := ?_) (a' := ?_) #[true, true, true, true, true, true, true, true, false, false, false, true, true, true, true, true, true, false, false, false, false, false, false, false, false, false] rfl rfl (by kernel_rfl) (fun _ _ _ h => h) (Or.inl ⟨by rfl, ?_⟩) ?_ ?_
 rotate_left
 ·intro w'
  go_simp
  with_reducible rfl
 rotate_left
 ·simp only [Act.put, sIB, sc0, scs, i64_w, i32_w]
  rfl
 refine pure_ (i := 17) (N := some 28) (v := ?_) (a' := ?_) #[true, true, true, true, true, true, true, true, false, false, false, true, true, true, true, true, true, true, false, false, false, false, false, false, false, false] rfl rfl (by kernel_rfl) (fun _ _ _ h => h) (Or.inl ⟨by rfl, ?_⟩) ?_ ?_
 rotate_left
 ·intro w'
  go_simp
  with_reducible rfl
 rotate_left
 ·simp only [Act.put, sIB, sc0, scs, i64_w, i32_w]
  rfl
 refine take_ (i := 8) (N := some 19) (v := ?_) (a' := ?_) #[true, true, true, true, true, true, true, true, true, false, false, true, true, true, true, true, true, true, false, false, false, false, false, false, false, false] rfl rfl (by kernel_rfl) (fun _ _ _ h => h) (Or.inl ⟨by rfl, ?_⟩) hHeld ?_ ?_
 rotate_left
 ·rintro w' ⟨s0, s1⟩
  go_simp
  with_reducible rfl
 rotate_left
 ·simp only [Act.put, sIB, sc0, scs, i64_w, i32_w]
  rfl
 refine pure_ (i := 9) (N := some 20) (v := ?_) (a' := ?_) #[true, true, true, true, true, true, true, true, true, true, false, true, true, true, true, true, true, true, false, false, false, false, false, false, false, false] rfl rfl (by kernel_rfl) (fun _ _ _ h => h) (Or.inl ⟨by rfl, ?_⟩) ?_ ?_
 rotate_left
 ·intro w'
  go_simp
  with_reducible rfl
 rotate_left
 ·simp only [Act.put, sIB, sc0, scs, i64_w, i32_w]
  rfl
 refine take_ (i := 10) (N := some 21) (v := ?_) (a' := ?_) (tf 18 8) rfl rfl (by kernel_rfl) (fun _ _ _ h => h) (Or.inl ⟨by rfl, ?_⟩) hHeld ?_ ?_
 rotate_left
 ·rintro w' ⟨s0, s1⟩
  go_simp
  with_reducible rfl
 rotate_left
 ·simp only [Act.put, sIB, sc0, scs, i64_w, i32_w]
  rfl
 refine take_ (i := 18) (N := some 29) (v := ?_) (a' := ?_) (tf 19 7) rfl rfl (by kernel_rfl) (fun _ _ _ h => h) (Or.inl ⟨by rfl, ?_⟩) hHeld ?_ ?_
 rotate_left
 ·rintro w' ⟨s0, s1⟩
  go_simp
  with_reducible rfl
 rotate_left
 ·simp only [Act.put, sIB, sc0, scs, i64_w, i32_w]
  rfl
 refine pure_ (i := 19) (N := some 30) (v := ?_) (a' := ?_) (tf 20 6) rfl rfl (by kernel_rfl) (fun _ _ _ h => h) (Or.inl ⟨by rfl, ?_⟩) ?_ ?_
 rotate_left
 ·intro w'
  go_simp
  with_reducible rfl
 rotate_left
 ·simp only [Act.put, sIB, sc0, scs, i64_w, i32_w]
  rfl
 refine take_ (i := 20) (N := some 31) (v := ?_) (a' := ?_) (tf 21 5) rfl rfl (by kernel_rfl) (fun _ _ _ h => h) (Or.inl ⟨by rfl, ?_⟩) hHeld ?_ ?_
 rotate_left
 ·rintro w' ⟨s0, s1⟩
  go_simp
  with_reducible rfl
 rotate_left
 ·simp only [Act.put, sIB, sc0, scs, i64_w, i32_w]
  rfl
 refine one_ (i := 21) (N := some 32) (tf 22 4) rfl rfl (by kernel_rfl) (by decide) (fun K hK => ?_)
 refine event_step (v := .slice (some ⟨w.drew.heap.size, 0, none⟩) 2 2) (w1 := w.drew.alloc (.cells #[.slice (some adf) n cf, .slice Ak ks.length ck] 24)) (by rfl) (by go_simp) ?_
 have HB := Aside0.mk (below_alloc (below_drew1 (Below.refl w.heap.size w)) (.cells #[.slice (some adf) n cf, .slice Ak ks.length ck] 24))
 have BK := Aside0.mk (blk_new w.drew (.cells #[.slice (some adf) n cf, .slice Ak ks.length ck] 24))
 have HG := Aside0.mk (show w.drew.heap.size = w.heap.size from rfl)
 generalize w.drew.alloc (.cells #[.slice (some adf) n cf, .slice Ak ks.length ck] 24) = w1 at HB BK ⊢
 generalize w.drew.heap.size = gx at BK HG ⊢
 refine hK.out _ _ ⟨pw_cell_below HB.out hxf, pw_cell_below HB.out hx⟩ (fun hHeld => ?_)
 clear hK K
 refine norm_ (a' := ?_) ?_ ?_
 rotate_left
 ·show Act.put _ (some 32) _ = _
  simp only [Act.put, sIB, sc0, scs, i64_w, i32_w]
  rfl
 refine one_ (i := 22) (N := some 33) (tf 23 3) rfl rfl (by kernel_rfl) (by decide) (fun K hK => ?_)
 refine goes_ Try.func86 (by kernel_rfl) rfl #[.slice (some ⟨gx, 0, none⟩) 2 2] (by rfl) rfl rfl (by (try simp only [List.map_toArray, List.map_cons, List.map_nil]); first | done | rfl) ?_
 have hcc := C_rows2 (x := l) (y := ks) (A := some adf) (B := Ak) (ca := cf) (cb := ck) (by rw [← HN.out]; exact (blk_cell BK.out 0).trans rfl) ((blk_cell BK.out 1).trans rfl) (Kd.C_below HCL.out HB.out) (by rw [← HN.out]; exact HLC.out) (HK.out w1 (Kept.of_below HB.out _)) HCK.out
 refine (slices_Concat.calls _ 2 [l, ks] (l ++ ks) _ hcc (Nat.le_refl _) HCC.out).mono ?_
 rintro e w2 ⟨v0_, rfl, ho, hb⟩
 refine ⟨_, rfl, ?_⟩
 obtain ⟨Ao, co, e_⟩ := Kd.R_slice ho
 subst e_
 have HO := Aside0.mk (Kd.R_lower ho HB.out.size)
 have HB2 := Aside0.mk (below_step HB.out hb)
 clear hcc ho hb
 refine hK.out _ _ ⟨pw_cell_below HB2.out hxf, pw_cell_below HB2.out hx⟩ (fun hHeld => ?_)
 clear hK K
 refine norm_ (a' := ?_) ?_ ?_
 rotate_left
 ·show Act.put _ (some 33) _ = _
  simp only [Act.put, sIB, sc0, scs, i64_w, i32_w]
  rfl
 refine pure_ (i := 23) (N := some 4) (v := ?_) (a' := ?_) (tf 24 2) rfl rfl (by kernel_rfl) (fun _ _ _ h => h) (Or.inl ⟨by rfl, ?_⟩) ?_ ?_
 rotate_left
 ·intro w'
  go_simp
  with_reducible rfl
 rotate_left
 ·simp only [Act.put, sIB, sc0, scs, i64_w, i32_w]
  rfl
 refine pure_ (i := 24) (N := some 5) (v := ?_) (a' := ?_) (tf 25 1) rfl rfl (by kernel_rfl) (fun _ _ _ h => h) (Or.inl ⟨by rfl, ?_⟩) ?_ ?_
 rotate_left
 ·intro w'
  go_simp
  with_reducible rfl
 rotate_left
 ·simp only [Act.put, sIB, sc0, scs, i64_w, i32_w]
  rfl
 refine pure_ (i := 25) (N := some 6) (v := ?_) (a' := ?_) (tf 26 0) rfl rfl (by kernel_rfl) (fun _ _ _ h => h) (Or.inl ⟨by rfl, ?_⟩) ?_ ?_
 rotate_left
 ·intro w'
  go_simp
  with_reducible rfl
 rotate_left
 ·simp only [Act.put, sIB, sc0, scs, i64_w, i32_w]
  rfl
 refine done_ (by kernel_rfl) ?_

 go_wp2
 refine bodyPost_ret (v := .tuple #[.slice (some adf) n n, .slice Ak ks.length ck, .slice Ao (l.length + ks.length) co]) (by simp [results, Try.results107, go_sem]) rfl ⟨Ak, ck, Ao, co, by rw [List.length_append], HCK.out, HK.out, HO.out, HB2.out⟩

theorem zero64 (w : World) : (zeroValue 2).run Try.prog w = .ok (.int .i64 0) w := by kernel_rfl
theorem keyed9 : Go.Maps.Keyed Try.prog 9 := Go.Maps.string_keyed Try.underlying9
/-- The state of the search. -/
def PInv (ga gm ct cu base : Nat) (At Au : Option Addr) (t u : Tr.F) (w : World) (k : Nat) (D : DataW Unit) : Prop :=
 w.heap[ga]? = some (.cells #[.slice At t.size ct, .slice Au u.size cu, .map (some gm)] 128 (0, 0)) ∧ w.ownsMap Try.prog 9 (plainElem Try.prog 2) gm k D ∧ Tr.DV t u D ∧ Keeps gm w (fun W => Kd.C (Kd.slice 2 (Kd.int .i64)) W At t.size (kidsL t)) ∧ Keeps gm w (fun W => Kd.C (Kd.slice 2 (Kd.int .i64)) W Au u.size (kidsL u)) ∧ base ≤ gm
def PPost (ga gm ct cu base : Nat) (At Au : Option Addr) (t u : Tr.F) (w : World) (k r : Nat) (e : Ending) (w' : World) : Prop :=
 ∃ D, e = .returned (.int .i64 (r : Int)) ∧ PInv ga gm ct cu base At Au t u w' k D ∧ Below base w w' ∧ Kept w w' (fun k_ => k_ = gm)
def KC (gm : Nat) (w : World) (A : Option Addr) (l : List Int) : Prop := Keeps gm w (fun W => Kd.C (Kd.int .i64) W A l.length l)
theorem PInv.map {ga gm ct cu base k : Nat} {At Au : Option Addr} {t u : Tr.F} {w : World} {D : DataW Unit} (h : PInv ga gm ct cu base At Au t u w k D) : ∃ es clock, w.heap[gm]? = some (.map es clock) ∧ ∀ j, w.cell? ⟨gm, j, none⟩ = none := by
 obtain ⟨_, ⟨es, clock, h2, _⟩, _⟩ := h
 exact ⟨es, clock, h2, fun j => by simp [World.cell?, h2]⟩
theorem PInv.ne {ga gm ct cu base k : Nat} {At Au : Option Addr} {t u : Tr.F} {w : World} {D : DataW Unit} (h : PInv ga gm ct cu base At Au t u w k D) : ¬ ga = gm := by
 intro e
 obtain ⟨es, clock, h2, _⟩ := h.map
 have h1 := h.1
 rw [e, h2] at h1
 cases h1
theorem PInv.below {ga gm ct cu base k : Nat} {At Au : Option Addr} {t u : Tr.F} {w w' : World} {D : DataW Unit} (h : PInv ga gm ct cu base At Au t u w k D) (hb : Below w.heap.size w w') : PInv ga gm ct cu base At Au t u w' k D :=
 ⟨blk_below h.1 hb, h.2.1.kept (grown_of_below hb none) (by simp), h.2.2.1, h.2.2.2.1.below hb, h.2.2.2.2.1.below hb, h.2.2.2.2.2⟩
theorem PInv.mono {ga gm ct cu base k k' : Nat} {At Au : Option Addr} {t u : Tr.F} {w : World} {D : DataW Unit} (h : PInv ga gm ct cu base At Au t u w k D) (hk : k ≤ k') : PInv ga gm ct cu base At Au t u w k' D :=
 ⟨h.1, h.2.1.mono hk, h.2.2⟩
theorem PInv.lt {ga gm ct cu base k : Nat} {At Au : Option Addr} {t u : Tr.F} {w : World} {D : DataW Unit} (h : PInv ga gm ct cu base At Au t u w k D) : gm < w.heap.size := h.2.1.lt
/-- What 'pairs' answers for lists of trees of at most s nodes together. -/
def PairsAt (ga gm ct cu base : Nat) (At Au : Option Addr) (t u : Tr.F) (s : Nat) : Prop :=
 ∀ (X Y : Tr.F) (f g : List Int) (Af Ag : Option Addr) (cf cg k : Nat) (D : DataW Unit) (w : World), X.size + Y.size ≤ s → X.size ≤ 24 → Y.size ≤ 24 → Tr.F.RL t f X → Tr.F.RL u g Y → PInv ga gm ct cu base At Au t u w k D → k + Tr.F.st X Y ≤ 9000000000000000000 → KC gm w Af f → f.length ≤ cf → KC gm w Ag g → g.length ≤ cg →
  Calls Try.prog 99 #[.pointer (some ⟨ga, 0, none⟩), .slice Af f.length cf, .slice Ag g.length cg] w (PPost ga gm ct cu base At Au t u w (k + Tr.F.st X Y) (Tr.F.pc X Y))
theorem KC.left {gm : Nat} {w : World} {A : Option Addr} {l : List Int} {v : Int} (h : KC gm w A (l ++ [v])) : KC gm w A l := fun W' hk => by
 have := Kd.C_take (xs := l ++ [v]) (m := l.length) (h W' hk) (by simp)
 simpa using this
theorem KC.step {gm : Nat} {w w' : World} {A : Option Addr} {l : List Int} (h : KC gm w A l) (hk : Kept w w' (fun k_ => k_ = gm)) : KC gm w' A l := Keeps.step h hk
theorem KC.below {gm : Nat} {w w' : World} {A : Option Addr} {l : List Int} (h : KC gm w A l) (hb : Below w.heap.size w w') : KC gm w' A l := Keeps.below h hb
theorem KC.own {gm : Nat} {w w' : World} {A : Option Addr} {c : Nat} {l : List Int} (h : Kd.R (Kd.int .i64) 2 w' w.heap.size (fun _ => True) (.slice A l.length c) l) (hg : gm < w.heap.size) : KC gm w' A l :=
 Kd.C_kept_own (Kd.R_mono (ok' := fun k_ => k_ ≠ gm) (Kd.R_bound h) (fun k_ hk_ => by have h1_ := hk_.2.1; omega)) (fun k_ hk_ => hk_)
/-! the key -/
theorem key_l1 (g : List Int) (hg : ∀ a ∈ g, 0 ≤ a ∧ a ≤ 255) (hl : g.length ≤ 1000) : ∀ (m i k : Nat) (x : List Int), i + m = g.length → m < k → x.length + m ≤ 10000 → impl_key.l1 k x g (g.length : Int) (i : Int) = some (strOfNums (x ++ g.drop i)) := by
 intro m
 induction m with
 | zero =>
  intro i k x hi hk hx
  obtain ⟨k, rfl⟩ : ∃ m, k = m + 1 := ⟨k - 1, by omega⟩
  simp only [impl_key.l1]
  rw [if_neg (by omega), List.drop_of_length_le (by omega), List.append_nil]
 | succ m ih =>
  intro i k x hi hk hx
  obtain ⟨k, rfl⟩ : ∃ m, k = m + 1 := ⟨k - 1, by omega⟩
  have hil : i < g.length := by omega
  have e : rd g (i : Int) = g[i] := Tr.rd_getElem hil
  have hr := hg _ (List.getElem_mem hil)
  simp only [impl_key.l1]
  rw [if_pos (by omega), if_pos (by omega), if_pos (by omega), if_pos (by omega), Tr.wrap_succ (by omega), e, Int.emod_eq_of_lt (by omega) (by omega), ih (i + 1) k _ (by omega) (by omega) (by simp; omega), List.drop_eq_getElem_cons hil]
  simp
theorem key_l0 (f g : List Int) (hf : ∀ a ∈ f, 0 ≤ a ∧ a ≤ 255) (hfl : f.length ≤ 1000) (hg : ∀ a ∈ g, 0 ≤ a ∧ a ≤ 255) (hl : g.length ≤ 1000) : ∀ (m i k : Nat) (x : List Int), i + m = f.length → m + g.length + 1 < k → x.length + m ≤ 5000 → impl_key.l0 k g x f (f.length : Int) (i : Int) = some (strOfNums (x ++ f.drop i ++ [255] ++ g)) := by
 intro m
 induction m with
 | zero =>
  intro i k x hi hk hx
  obtain ⟨k, rfl⟩ : ∃ m, k = m + 1 := ⟨k - 1, by omega⟩
  simp only [impl_key.l0]
  rw [if_neg (by omega), if_pos (by omega), List.drop_of_length_le (l := f) (by omega), List.append_nil]
  have := key_l1 g hg hl g.length 0 k (x ++ [255]) (by omega) (by omega) (by simp; omega)
  simpa using this
 | succ m ih =>
  intro i k x hi hk hx
  obtain ⟨k, rfl⟩ : ∃ m, k = m + 1 := ⟨k - 1, by omega⟩
  have hil : i < f.length := by omega
  have e : rd f (i : Int) = f[i] := Tr.rd_getElem hil
  have hr := hf _ (List.getElem_mem hil)
  simp only [impl_key.l0]
  rw [if_pos (by omega), if_pos (by omega), if_pos (by omega), if_pos (by omega), Tr.wrap_succ (by omega), e, Int.emod_eq_of_lt (by omega) (by omega), ih (i + 1) k _ (by omega) (by omega) (by simp; omega), List.drop_eq_getElem_cons hil]
  simp
theorem key_eq (f g : List Int) (hf : ∀ a ∈ f, 0 ≤ a ∧ a ≤ 23) (hfl : f.length ≤ 1000) (hg : ∀ a ∈ g, 0 ≤ a ∧ a ≤ 23) (hl : g.length ≤ 1000) : impl_key.f (f.length + g.length + 2) f g = some (Tr.kt f g) := by
 have := key_l0 f g (fun a h => by have := hf a h; omega) hfl (fun a h => by have := hg a h; omega) hl f.length 0 (f.length + g.length + 2) [] (by omega) (by omega) (by simp; omega)
 simpa [impl_key.f, Tr.kt] using this

set_option maxHeartbeats 8000000 in
set_option maxRecDepth 100000 in
theorem pairs_nil (ga gm ct cu base : Nat) (At Au : Option Addr) (t u : Tr.F) (X Y : Tr.F) (f g : List Int) (Af Ag : Option Addr) (cf cg k : Nat) (D : DataW Unit) (w : World) (hXY : X = .nil ∨ Y = .nil) (h1 : Tr.F.RL t f X) (h2 : Tr.F.RL u g Y) (hP : PInv ga gm ct cu base At Au t u w k D) :
  Calls Try.prog 99 #[.pointer (some ⟨ga, 0, none⟩), .slice Af f.length cf, .slice Ag g.length cg] w (PPost ga gm ct cu base At Au t u w (k + Tr.F.st X Y) (Tr.F.pc X Y)) := by
 have hz : Tr.F.pc X Y = 0 := by
  rcases hXY with rfl | rfl
  ·exact Tr.F.pc_nil _
  ·exact Tr.F.pc_nil2 _
 have hs : Tr.F.st X Y = 0 := by
  rcases hXY with rfl | rfl
  ·exact Tr.F.st_nil _
  ·exact Tr.F.st_nil2 _
 have e1 := Tr.F.RL_len X f h1
 have e2 := Tr.F.RL_len Y g h2
 have hor : f.length = 0 ∨ f.length ≠ 0 ∧ g.length = 0 := by
  rcases hXY with rfl | rfl
  ·left; rw [e1]; rfl
  ·by_cases h : f.length = 0
   ·exact .inl h
   ·exact .inr ⟨h, by rw [e2]; rfl⟩
 rw [hz, hs, Nat.add_zero]
 have HP := Aside0.mk hP
 clear hXY h1 h2 hP hz hs e1 e2
 obtain ⟨a, ha⟩ : ∃ a, a = f.length := ⟨_, rfl⟩
 obtain ⟨b, hb⟩ : ∃ b, b = g.length := ⟨_, rfl⟩
 rw [← ha, ← hb] at hor ⊢
 clear ha hb
 rcases hor with rfl | ⟨e1, rfl⟩
 ·go_enter Try.func99, Try.ntmps99
  go_wp2
  go_ret
  exact ⟨D, rfl, HP.out, Below.refl _ _, Kept.refl _ _⟩
 ·have e3 : ((a : Int) == 0) = false := by simp; omega
  go_enter Try.func99, Try.ntmps99
  go_wp2
  go_ret
  exact ⟨D, rfl, HP.out, Below.refl _ _, Kept.refl _ _⟩

set_option maxHeartbeats 8000000 in
set_option maxRecDepth 100000 in
theorem pairs_known (ga gm ct cu base : Nat) (At Au : Option Addr) (t u : Tr.F) (ht : t.size ≤ 24) (hu : u.size ≤ 24) (X Y : Tr.F) (f g : List Int) (Af Ag : Option Addr) (cf cg k kk : Nat) (D : DataW Unit) (w : World) (hf0 : f.length ≠ 0) (hg0 : g.length ≠ 0) (hfl : f.length ≤ 24) (hgl : g.length ≤ 24) (h1 : Tr.F.RL t f X) (h2 : Tr.F.RL u g Y) (hP : PInv ga gm ct cu base At Au t u w k D) (hkk : k ≤ kk) (hF : KC gm w Af f) (hcf : f.length ≤ cf) (hG : KC gm w Ag g) (hcg : g.length ≤ cg) (hbase : base ≤ w.heap.size) (hh : Maps.has D (Tr.kl f g) = true) :
  Calls Try.prog 99 #[.pointer (some ⟨ga, 0, none⟩), .slice Af f.length cf, .slice Ag g.length cg] w (PPost ga gm ct cu base At Au t u w kk (Tr.F.pc X Y)) := by
 have hkey := key_eq f g (Tr.RL_small ht h1) (by omega) (Tr.RL_small hu h2) (by omega)
 have hKS : (Tr.kt f g).size ≤ maxLen := by rw [Tr.kt_size]; unfold maxLen; omega
 have hat0 := hP.2.2.1 f g X Y h1 h2 hh
 have e1 : ((f.length : Int) == 0) = false := by rw [beq_eq_false_iff_ne]; omega
 have e2 : ((g.length : Int) == 0) = false := by rw [beq_eq_false_iff_ne]; omega
 have HKEY := Aside0.mk hkey
 have HKS := Aside0.mk hKS
 have HP := Aside0.mk hP
 have HF := Aside0.mk hF
 have HG := Aside0.mk hG
 have HCF := Aside0.mk hcf
 have HCG := Aside0.mk hcg
 have HAT := Aside0.mk hat0
 have HKK := Aside0.mk hkk
 have HBS := Aside0.mk hbase
 have HH := Aside0.mk hh
 have hh2 : Maps.has D (.string (Tr.kt f g).data.toList) = true := hh
 clear hkey hKS hat0 h1 h2 hP hF hG hcf hcg hkk hbase hh hf0 hg0 hfl hgl ht hu
 go_enter Try.func99, Try.ntmps99
 go_wp2_with (first | ((with_reducible refine gate_callee (f := 106) rfl ?_); refine goesL_ (some 27) rfl rfl Try.func106 (by kernel_rfl) rfl #[.slice Af f.length cf, .slice Ag g.length cg] rfl (by (try simp only [List.map_toArray, List.map_cons, List.map_nil]); first | done | rfl) ?_; refine (impl_key.calls _ _ _ f _ _ g _ _ HF.out.now HCF.out HG.out.now HCG.out HKEY.out).mono ?_; rintro e w1 ⟨rfl, hb⟩; refine ⟨_, rfl, ?_⟩; have HB1 := Aside0.mk hb; have HP1 := Aside0.mk (HP.out.below hb); have HF1 := Aside0.mk (HF.out.below hb); have HG1 := Aside0.mk (HG.out.below hb); have hz2 : w1.cell? ⟨ga, 2, none⟩ = some (.map (some gm)) := (blk_cell HP1.out.1 2).trans rfl; clear hb) | (at_lookup; refine wpList_lookup_own_ok_int _ rfl _ _ 126 rfl 9 2 .i64 keyed9 Try.underlying126 Try.underlying2 (zero64 _) gm k D rfl HP1.out.2.1 _ _ rfl (Go.WideMaps.keyOf_string_mk Try.underlying9 HKS.out) ?_; intro c hat hwc))
 go_ret
 have hc : c = (Tr.F.pc X Y : Int) := by
  have h1_ := HAT.out
  unfold Tr.kl at h1_
  rw [hat] at h1_
  injection h1_ with h1_
  injection h1_
 subst hc
 exact ⟨D, rfl, HP1.out.mono HKK.out, HB1.out.mono HBS.out, Kept.of_below HB1.out _⟩

set_option maxHeartbeats 8000000 in
set_option maxRecDepth 100000 in
theorem pairs_new (ga gm ct cu base : Nat) (At Au : Option Addr) (t u : Tr.F) (f g l ks ot l2 ks2 ot2 : List Int) (Af Ag : Option Addr) (cf cg k kk s1 s2 s3 s4 r1 r2 r3 r4 r : Nat) (D : DataW Unit) (w : World) (hf0 : ((f.length : Int) == 0) = false) (hg0 : ((g.length : Int) == 0) = false) (kr : Nat) (hkey : impl_key.f kr f g = some (Tr.kt f g)) (hKS : (Tr.kt f g).size ≤ maxLen)
  (hP : PInv ga gm ct cu base At Au t u w k D) (hF : KC gm w Af f) (hcf : f.length ≤ cf) (hG : KC gm w Ag g) (hcg : g.length ≤ cg) (hbase : base ≤ w.heap.size) (hh : Maps.has D (.string (Tr.kt f g).data.toList) = false)
  (hlf : ∀ W, KC gm W Af f → KC gm W Af l) (hlg : ∀ W, KC gm W Ag g → KC gm W Ag l2)
  (wt : ∀ (o : Obj) (w : World), w.heap[gm]? = some o → (∀ j, w.cell? ⟨gm, j, none⟩ = none) → Keeps gm w (fun W => Kd.C (Kd.slice 2 (Kd.int .i64)) W At t.size (kidsL t)) → KC gm w Af f → Calls Try.prog 107 #[.slice At t.size ct, .slice Af f.length cf] w fun e w' => ∃ Ak ck Ao co, e = .returned (.tuple #[.slice Af l.length l.length, .slice Ak ks.length ck, .slice Ao ot.length co]) ∧ ks.length ≤ ck ∧ KC gm w Ak ks ∧ ot.length ≤ co ∧ Kd.R (Kd.int .i64) 2 w' w.heap.size (fun _ => True) (.slice Ao ot.length co) ot ∧ Below w.heap.size w w')
  (wu : ∀ (o : Obj) (w : World), w.heap[gm]? = some o → (∀ j, w.cell? ⟨gm, j, none⟩ = none) → Keeps gm w (fun W => Kd.C (Kd.slice 2 (Kd.int .i64)) W Au u.size (kidsL u)) → KC gm w Ag g → Calls Try.prog 107 #[.slice Au u.size cu, .slice Ag g.length cg] w fun e w' => ∃ Ak ck Ao co, e = .returned (.tuple #[.slice Ag l2.length l2.length, .slice Ak ks2.length ck, .slice Ao ot2.length co]) ∧ ks2.length ≤ ck ∧ KC gm w Ak ks2 ∧ ot2.length ≤ co ∧ Kd.R (Kd.int .i64) 2 w' w.heap.size (fun _ => True) (.slice Ao ot2.length co) ot2 ∧ Below w.heap.size w w')
  (ih1 : ∀ (A B : Option Addr) (ca cb k : Nat) (D : DataW Unit) (w : World), PInv ga gm ct cu base At Au t u w k D → k + s1 ≤ 9000000000000000000 → KC gm w A ks → ks.length ≤ ca → KC gm w B ks2 → ks2.length ≤ cb → Calls Try.prog 99 #[.pointer (some ⟨ga, 0, none⟩), .slice A ks.length ca, .slice B ks2.length cb] w (PPost ga gm ct cu base At Au t u w (k + s1) r1))
  (ih2 : ∀ (A B : Option Addr) (ca cb k : Nat) (D : DataW Unit) (w : World), PInv ga gm ct cu base At Au t u w k D → k + s2 ≤ 9000000000000000000 → KC gm w A l → l.length ≤ ca → KC gm w B l2 → l2.length ≤ cb → Calls Try.prog 99 #[.pointer (some ⟨ga, 0, none⟩), .slice A l.length ca, .slice B l2.length cb] w (PPost ga gm ct cu base At Au t u w (k + s2) r2))
  (ih3 : ∀ (A B : Option Addr) (ca cb k : Nat) (D : DataW Unit) (w : World), PInv ga gm ct cu base At Au t u w k D → k + s3 ≤ 9000000000000000000 → KC gm w A ot → ot.length ≤ ca → KC gm w B g → g.length ≤ cb → Calls Try.prog 99 #[.pointer (some ⟨ga, 0, none⟩), .slice A ot.length ca, .slice B g.length cb] w (PPost ga gm ct cu base At Au t u w (k + s3) r3))
  (ih4 : ∀ (A B : Option Addr) (ca cb k : Nat) (D : DataW Unit) (w : World), PInv ga gm ct cu base At Au t u w k D → k + s4 ≤ 9000000000000000000 → KC gm w A f → f.length ≤ ca → KC gm w B ot2 → ot2.length ≤ cb → Calls Try.prog 99 #[.pointer (some ⟨ga, 0, none⟩), .slice A f.length ca, .slice B ot2.length cb] w (PPost ga gm ct cu base At Au t u w (k + s4) r4))
  (hk1 : k + s1 ≤ 9000000000000000000) (hk2 : k + s1 + s2 ≤ 9000000000000000000) (hk3 : k + s1 + s2 + s3 ≤ 9000000000000000000) (hk4 : k + s1 + s2 + s3 + s4 ≤ 9000000000000000000) (hkk : k + s1 + s2 + s3 + s4 + 1 ≤ kk)
  (hw1 : wrap64 (1 + (r1 : Int)) = ((1 + r1 : Nat) : Int)) (hw1p : wrap64 (1 + (r1 : Int)) = 1 + (r1 : Int)) (hw2 : wrap64 (1 + (r1 : Int) + (r2 : Int)) = 1 + (r1 : Int) + (r2 : Int)) (hr : mx (mx (1 + (r1 : Int) + (r2 : Int)) (r3 : Int)) (r4 : Int) = (r : Int)) (hwf : (Lit.int .i64 (r : Int)).wf = true) (hput : ∀ D, Go.Maps.IsMap D → Tr.DV t u D → Tr.DV t u (D.put (.string (Tr.kt f g).data.toList) (.lit (.int .i64 (r : Int))))) :
  Calls Try.prog 99 #[.pointer (some ⟨ga, 0, none⟩), .slice Af f.length cf, .slice Ag g.length cg] w (PPost ga gm ct cu base At Au t u w kk r) := by
 have HKEY := Aside0.mk hkey
 have HKSZ := Aside0.mk hKS
 have HP := Aside0.mk hP
 have HF := Aside0.mk hF
 have HG := Aside0.mk hG
 have HCF := Aside0.mk hcf
 have HCG := Aside0.mk hcg
 have HBS := Aside0.mk hbase
 have WT := Aside0.mk wt
 have WU := Aside0.mk wu
 have IH1 := Aside0.mk ih1
 have IH2 := Aside0.mk ih2
 have IH3 := Aside0.mk ih3
 have IH4 := Aside0.mk ih4
 have HK1 := Aside0.mk hk1
 have HK2 := Aside0.mk hk2
 have HK3 := Aside0.mk hk3
 have HK4 := Aside0.mk hk4
 have HKK := Aside0.mk hkk
 have HLF := Aside0.mk hlf
 have HLG := Aside0.mk hlg
 have HPUT := Aside0.mk hput
 have HWF := Aside0.mk hwf
 have HR := Aside0.mk hr
 clear hkey hKS hP hF hG hcf hcg hbase wt wu ih1 ih2 ih3 ih4 hk1 hk2 hk3 hk4 hkk hlf hlg hput hwf hw1 hr
 go_enter Try.func99, Try.ntmps99
 go_wp2_with (first | ((with_reducible refine gate_callee (f := 106) rfl ?_); refine goesL_ (some 27) rfl rfl Try.func106 (by kernel_rfl) rfl #[.slice Af f.length cf, .slice Ag g.length cg] rfl (by (try simp only [List.map_toArray, List.map_cons, List.map_nil]); first | done | rfl) ?_; refine (impl_key.calls _ _ _ f _ _ g _ _ HF.out.now HCF.out HG.out.now HCG.out HKEY.out).mono ?_; rintro e w1 ⟨rfl, hb⟩; refine ⟨_, rfl, ?_⟩; have HB := Aside0.mk (hb.mono HBS.out); have HK := Aside0.mk (Kept.of_below (S := fun k_ => k_ = gm) hb); have HP_ := Aside0.mk (HP.out.below hb); have HF_ := Aside0.mk (HF.out.below hb); have HG_ := Aside0.mk (HG.out.below hb); clear HP HF HG; have HP := HP_; clear HP_; have HF := HF_; clear HF_; have HG := HG_; clear HG_; have hz0 : w1.cell? ⟨ga, 0, none⟩ = some (.slice At t.size ct) := (blk_cell HP.out.1 0).trans rfl; have hz2 : w1.cell? ⟨ga, 2, none⟩ = some (.map (some gm)) := (blk_cell HP.out.1 2).trans rfl; clear hb) | (at_lookup; refine wpList_lookup_own_ok_int _ rfl _ _ 126 rfl 9 2 .i64 keyed9 Try.underlying126 Try.underlying2 (zero64 _) gm k D rfl HP.out.2.1 _ _ rfl (Go.WideMaps.keyOf_string_mk Try.underlying9 HKSZ.out) ?_; intro c hat hwc) | ((with_reducible refine gate_dst (N := 45) rfl ?_); refine goesL_ (some 45) rfl rfl Try.func107 (by kernel_rfl) rfl #[.slice At t.size ct, .slice Af f.length cf] rfl (by (try simp only [List.map_toArray, List.map_cons, List.map_nil]); first | done | rfl) ?_; obtain ⟨es_, cl_, hm_, hmc_⟩ := HP.out.map; refine (WT.out _ _ hm_ hmc_ HP.out.2.2.2.1 HF.out).mono ?_; clear hm_ hmc_; rintro e w2 ⟨Ak, ck, Ao, co, rfl, hck, hkk, hco, ho, hb⟩; refine ⟨_, rfl, ?_⟩; have HO := Aside0.mk (KC.own ho HP.out.lt); have HKS := Aside0.mk (hkk.below hb); have CHKS := Aside0.mk hck; have CHO := Aside0.mk hco; have HB_ := Aside0.mk (HB.out.trans (hb.mono (Nat.le_trans HBS.out HK.out.1))); have HK_ := Aside0.mk (HK.out.below hb); clear HB HK; have HB := HB_; have HK := HK_; clear HB_ HK_; have HP_ := Aside0.mk (HP.out.below hb); have HF_ := Aside0.mk (HF.out.below hb); have HG_ := Aside0.mk (HG.out.below hb); clear HP HF HG; have HP := HP_; clear HP_; have HF := HF_; clear HF_; have HG := HG_; clear HG_; have hz1 : w2.cell? ⟨ga, 1, none⟩ = some (.slice Au u.size cu) := (blk_cell HP.out.1 1).trans rfl; clear hck hkk hco ho hb) | ((with_reducible refine gate_dst (N := 55) rfl ?_); refine goesL_ (some 55) rfl rfl Try.func107 (by kernel_rfl) rfl #[.slice Au u.size cu, .slice Ag g.length cg] rfl (by (try simp only [List.map_toArray, List.map_cons, List.map_nil]); first | done | rfl) ?_; obtain ⟨es_, cl_, hm_, hmc_⟩ := HP.out.map; refine (WU.out _ _ hm_ hmc_ HP.out.2.2.2.2.1 HG.out).mono ?_; clear hm_ hmc_; rintro e w3 ⟨Ak2, ck2, Ao2, co2, rfl, hck, hkk, hco, ho, hb⟩; refine ⟨_, rfl, ?_⟩; have HO2 := Aside0.mk (KC.own ho HP.out.lt); have HKS2 := Aside0.mk (hkk.below hb); have CHKS2 := Aside0.mk hck; have CHO2 := Aside0.mk hco; have HB_ := Aside0.mk (HB.out.trans (hb.mono (Nat.le_trans HBS.out HK.out.1))); have HK_ := Aside0.mk (HK.out.below hb); clear HB HK; have HB := HB_; have HK := HK_; clear HB_ HK_; have HP_ := Aside0.mk (HP.out.below hb); have HF_ := Aside0.mk (HF.out.below hb); have HG_ := Aside0.mk (HG.out.below hb); have HKS_ := Aside0.mk (HKS.out.below hb); have HO_ := Aside0.mk (HO.out.below hb); clear HP HF HG HKS HO; have HP := HP_; clear HP_; have HF := HF_; clear HF_; have HG := HG_; clear HG_; have HKS := HKS_; clear HKS_; have HO := HO_; clear HO_; clear hck hkk hco ho hb) | ((with_reducible refine gate_dst (N := 62) rfl ?_); refine goesL_ (some 62) rfl rfl Try.func99 (by kernel_rfl) rfl #[.pointer (some ⟨ga, 0, none⟩), .slice Ak ks.length ck, .slice Ak2 ks2.length ck2] rfl (by (try simp only [List.map_toArray, List.map_cons, List.map_nil]); first | done | rfl) ?_; refine (IH1.out _ _ _ _ _ _ _ HP.out HK1.out HKS.out CHKS.out HKS2.out CHKS2.out).mono ?_; rintro e w4 ⟨D4, rfl, hp, hb, hk⟩; refine ⟨_, rfl, ?_⟩; have HB_ := Aside0.mk (HB.out.trans hb); have HK_ := Aside0.mk (HK.out.then_ hk (fun _ h => .inl h)); clear HB HK HP; have HB := HB_; have HK := HK_; have HP := Aside0.mk hp; clear HB_ HK_; have HF_ := Aside0.mk (HF.out.step hk); have HG_ := Aside0.mk (HG.out.step hk); have HO_ := Aside0.mk (HO.out.step hk); have HO2_ := Aside0.mk (HO2.out.step hk); clear HF HG HO HO2; have HF := HF_; clear HF_; have HG := HG_; clear HG_; have HO := HO_; clear HO_; have HO2 := HO2_; clear HO2_; clear hp hb hk) | ((with_reducible refine gate_dst (N := 67) rfl ?_); refine goesL_ (some 67) rfl rfl Try.func99 (by kernel_rfl) rfl #[.pointer (some ⟨ga, 0, none⟩), .slice Af l.length l.length, .slice Ag l2.length l2.length] rfl (by (try simp only [List.map_toArray, List.map_cons, List.map_nil]); first | done | rfl) ?_; refine (IH2.out _ _ _ _ _ _ _ HP.out HK2.out (Aside0.mk (HLF.out _ HF.out)).out (Nat.le_refl _) (Aside0.mk (HLG.out _ HG.out)).out (Nat.le_refl _)).mono ?_; rintro e w5 ⟨D5, rfl, hp, hb, hk⟩; refine ⟨_, rfl, ?_⟩; have HB_ := Aside0.mk (HB.out.trans hb); have HK_ := Aside0.mk (HK.out.then_ hk (fun _ h => .inl h)); clear HB HK HP; have HB := HB_; have HK := HK_; have HP := Aside0.mk hp; clear HB_ HK_; have HF_ := Aside0.mk (HF.out.step hk); have HG_ := Aside0.mk (HG.out.step hk); have HO_ := Aside0.mk (HO.out.step hk); have HO2_ := Aside0.mk (HO2.out.step hk); clear HF HG HO HO2; have HF := HF_; clear HF_; have HG := HG_; clear HG_; have HO := HO_; clear HO_; have HO2 := HO2_; clear HO2_; clear hp hb hk) | ((with_reducible refine gate_dst (N := 72) rfl ?_); refine goesL_ (some 72) rfl rfl Try.func99 (by kernel_rfl) rfl #[.pointer (some ⟨ga, 0, none⟩), .slice Ao ot.length co, .slice Ag g.length cg] rfl (by (try simp only [List.map_toArray, List.map_cons, List.map_nil]); first | done | rfl) ?_; refine (IH3.out _ _ _ _ _ _ _ HP.out HK3.out HO.out CHO.out HG.out HCG.out).mono ?_; rintro e w6 ⟨D6, rfl, hp, hb, hk⟩; refine ⟨_, rfl, ?_⟩; have HB_ := Aside0.mk (HB.out.trans hb); have HK_ := Aside0.mk (HK.out.then_ hk (fun _ h => .inl h)); clear HB HK HP; have HB := HB_; have HK := HK_; have HP := Aside0.mk hp; clear HB_ HK_; have HF_ := Aside0.mk (HF.out.step hk); have HO2_ := Aside0.mk (HO2.out.step hk); clear HF HO2; have HF := HF_; clear HF_; have HO2 := HO2_; clear HO2_; clear hp hb hk) | ((with_reducible refine gate_dst (N := 76) rfl ?_); refine goesL_ (some 76) rfl rfl Try.func99 (by kernel_rfl) rfl #[.pointer (some ⟨ga, 0, none⟩), .slice Af f.length cf, .slice Ao2 ot2.length co2] rfl (by (try simp only [List.map_toArray, List.map_cons, List.map_nil]); first | done | rfl) ?_; refine (IH4.out _ _ _ _ _ _ _ HP.out HK4.out HF.out HCF.out HO2.out CHO2.out).mono ?_; rintro e w7 ⟨D7, rfl, hp, hb, hk⟩; refine ⟨_, rfl, ?_⟩; have HB_ := Aside0.mk (HB.out.trans hb); have HK_ := Aside0.mk (HK.out.then_ hk (fun _ h => .inl h)); clear HB HK HP; have HB := HB_; have HK := HK_; have HP := Aside0.mk hp; clear HB_ HK_; clear HF HO2; have hz7 : w7.cell? ⟨ga, 2, none⟩ = some (.map (some gm)) := (blk_cell HP.out.1 2).trans rfl; clear hp hb hk) | (at_mapUpdate; refine wpList_mapUpdate_own _ rfl _ _ _ 126 rfl 9 2 keyed9 Try.underlying126 _ gm (k + s1 + s2 + s3 + s4) D7 rfl HP.out.2.1 (by have h_ := HK4.out; clear hw2 hw1p; unfold maxLen; omega) (.string (Tr.kt f g)) (.int .i64 (r : Int)) _ rfl (by (show Value.int .i64 _ = Value.int .i64 _); congr 1; have h_ := HR.out; clear hw2 hw1p; unfold mx at h_; repeat (first | omega | split at h_)) (Go.WideMaps.keyOf_string_mk Try.underlying9 HKSZ.out) _ [] (plainElem_int Try.underlying2 HWF.out) ?_; intro w8 hown8 hgrow8; have HOW := Aside0.mk hown8; have HGR := Aside0.mk hgrow8; clear hown8 hgrow8))
 all_goals
  go_ret
  have hkg : Kept w7 w8 (fun k_ => k_ = gm) := Kept.of_grown HGR.out (Kept.refl w7 _) (fun k_ h_ => .inl (by injection h_ with h_; exact h_.symm))
  have hne : some ga ≠ some gm := fun e => HP.out.ne (by injection e)
  refine ⟨_, ?_, ⟨(HGR.out.block ga (blk_lt HP.out.1) hne).trans HP.out.1, HOW.out.mono HKK.out, HPUT.out _ HP.out.2.1.isMap HP.out.2.2.1, HP.out.2.2.2.1.step hkg, HP.out.2.2.2.2.1.step hkg, HP.out.2.2.2.2.2⟩, HB.out.grown HGR.out (Nat.le_trans HP.out.2.2.2.2.2 (Nat.le_of_lt HP.out.lt)) (fun k_ h_ => by injection h_ with h_; rw [← h_]; exact HP.out.2.2.2.2.2), HK.out.then_ hkg (fun _ h => .inl h)⟩
  show Ending.returned (Value.int .i64 _) = Ending.returned (Value.int .i64 _)
  congr 2
  have h_ := HR.out
  clear hw2 hw1p hkg hne
  unfold mx at h_
  repeat (first | omega | split at h_)

theorem pairsAt (ga gm ct cu base : Nat) (At Au : Option Addr) {dt du : List Int} {t u : Tr.F} (hT : Tr.Tree dt t) (hU : Tr.Tree du u) (hct : t.size ≤ ct) (hcu : u.size ≤ cu) : ∀ s, PairsAt ga gm ct cu base At Au t u s := by
 intro s
 induction s with
 | zero =>
  intro X Y f g Af Ag cf cg k D w hs hX hY h1 h2 hP hk hF hcf hG hcg
  exact pairs_nil ga gm ct cu base At Au t u X Y f g Af Ag cf cg k D w (.inl (Tr.F.size_zero (by omega))) h1 h2 hP
 | succ s ih =>
  intro X Y f g Af Ag cf cg k D w hs hX hY h1 h2 hP hk hF hcf hG hcg
  have hbase : base ≤ w.heap.size := Nat.le_trans hP.2.2.2.2.2 (Nat.le_of_lt hP.lt)
  cases X with
  | nil => exact pairs_nil ga gm ct cu base At Au t u .nil Y f g Af Ag cf cg k D w (.inl rfl) h1 h2 hP
  | cons b n =>
   cases Y with
   | nil => exact pairs_nil ga gm ct cu base At Au t u (.cons b n) .nil f g Af Ag cf cg k D w (.inr rfl) h1 h2 hP
   | cons b2 n2 =>
    have hst := Tr.F.st_cons b n b2 n2
    have hpc := Tr.F.pc_cons b n b2 n2
    have e1 := Tr.F.RL_len _ f h1
    have e2 := Tr.F.RL_len _ g h2
    have l1 := Tr.F.len_le (.cons b n)
    have l2_ := Tr.F.len_le (.cons b2 n2)
    have hf24 : f.length ≤ 24 := by omega
    have hg24 : g.length ≤ 24 := by omega
    have hle1 := Tr.F.pc_le _ b b2 (Nat.le_refl _)
    have hle2 := Tr.F.pc_le _ n n2 (Nat.le_refl _)
    have hle3 := Tr.F.pc_le _ (b.app n) (.cons b2 n2) (Nat.le_refl _)
    have hle4 := Tr.F.pc_le _ (.cons b n) (b2.app n2) (Nat.le_refl _)
    have hkey := key_eq f g (Tr.RL_small hT.few h1) (by omega) (Tr.RL_small hU.few h2) (by omega)
    have hKS : (Tr.kt f g).size ≤ maxLen := by rw [Tr.kt_size]; unfold maxLen; omega
    have hf0 : f.length ≠ 0 := by rw [e1]; simp only [Tr.F.len]; omega
    have hg0 : g.length ≠ 0 := by rw [e2]; simp only [Tr.F.len]; omega
    by_cases hh : Go.Maps.has D (Tr.kl f g) = true
    ·exact pairs_known ga gm ct cu base At Au t u hT.few hU.few _ _ f g Af Ag cf cg k _ D w hf0 hg0 (by omega) (by omega) h1 h2 hP (by omega) hF hcf hG hcg hbase hh
    ·obtain ⟨l, v, hfl, hv, hb, hn⟩ := id h1
     obtain ⟨l2, v2, hgl, hv2, hb2, hn2⟩ := id h2
     have hll : f.length = l.length + 1 := by rw [hfl]; simp
     have hll2 : g.length = l2.length + 1 := by rw [hgl]; simp
     obtain ⟨B, hB⟩ : ∃ B : Nat, B = 9000000000000000000 := ⟨_, rfl⟩
     simp only [Tr.F.size] at hs hX hY hle3 hle4
     refine pairs_new ga gm ct cu base At Au t u f g l ((t.sub v).roots (v + 1)) (l ++ (t.sub v).roots (v + 1)) l2 ((u.sub v2).roots (v2 + 1)) (l2 ++ (u.sub v2).roots (v2 + 1)) Af Ag cf cg k _ (Tr.F.st b b2) (Tr.F.st n n2) (Tr.F.st (b.app n) (.cons b2 n2)) (Tr.F.st (.cons b n) (b2.app n2)) (Tr.F.pc b b2) (Tr.F.pc n n2) (Tr.F.pc (b.app n) (.cons b2 n2)) (Tr.F.pc (.cons b n) (b2.app n2)) _ D w
      (by rw [beq_eq_false_iff_ne]; omega) (by rw [beq_eq_false_iff_ne]; omega) _ hkey hKS hP hF hcf hG hcg hbase (by simpa [Tr.kl] using hh) (fun W h => by rw [hfl] at h; exact h.left) (fun W h => by rw [hgl] at h; exact h.left)
      (fun o W hm hmc hK hC => ?wt) (fun o W hm hmc hK hC => ?wu)
      (fun A C ca cb k D w hP hk hA hca hC hcb => ih b b2 _ _ A C ca cb k D w (by omega) (by omega) (by omega) hb hb2 hP hk hA hca hC hcb)
      (fun A C ca cb k D w hP hk hA hca hC hcb => ih n n2 _ _ A C ca cb k D w (by omega) (by omega) (by omega) hn hn2 hP hk hA hca hC hcb)
      (fun A C ca cb k D w hP hk hA hca hC hcb => ih (b.app n) (.cons b2 n2) _ _ A C ca cb k D w (by simp only [Tr.F.size, Tr.F.app_size]; omega) (by simp only [Tr.F.app_size]; omega) (by simp only [Tr.F.size]; omega) (Tr.F.RL_app (k := []) hn b _ hb) h2 hP hk hA hca hC hcb)
      (fun A C ca cb k D w hP hk hA hca hC hcb => ih (.cons b n) (b2.app n2) _ _ A C ca cb k D w (by simp only [Tr.F.size, Tr.F.app_size]; omega) (by simp only [Tr.F.size]; omega) (by simp only [Tr.F.app_size]; omega) h1 (Tr.F.RL_app (k := []) hn2 b2 _ hb2) hP hk hA hca hC hcb)
      (by omega) (by omega) (by omega) (by omega) (by omega) (by rw [Tr.wrap_id (by omega) (by omega)]; omega) (Tr.wrap_id (by omega) (by omega)) (Tr.wrap_id (by omega) (by omega)) (by rw [hpc]; unfold mx; split <;> split <;> omega) (WalkArith.wf_i64 (by omega))
      (fun D' hD hV => Tr.DV_put hT.few hU.few hD hV h1 h2)
     case wt =>
      rw [hll]
      refine (without_ gm o At Af ct cf t l v W hv hT.few (by omega) hm hmc hct hK (by omega) (by have := hC.now; rw [hfl] at this; simpa using this)).mono ?_
      rintro e w' ⟨Ak, ck, Ao, co, he, h3, h4, h5, h6⟩
      exact ⟨Ak, ck, Ao, co, he, h3, h4, (Kd.R_reads' h5).2.1, h5, h6⟩
     case wu =>
      rw [hll2]
      refine (without_ gm o Au Ag cu cg u l2 v2 W hv2 hU.few (by omega) hm hmc hcu hK (by omega) (by have := hC.now; rw [hgl] at this; simpa using this)).mono ?_
      rintro e w' ⟨Ak, ck, Ao, co, he, h3, h4, h5, h6⟩
      exact ⟨Ak, ck, Ao, co, he, h3, h4, (Kd.R_reads' h5).2.1, h5, h6⟩
open Go.Proofs.Ytlppkilencpmeaa.Mn

theorem kidsL_take {t : Tr.F} {v : Nat} (h : v < t.size) : (kidsL t).take (v + 1) = (kidsL t).take v ++ [(t.sub v).roots (v + 1)] := by
 rw [List.take_succ_eq_append_getElem (by rw [kidsL_len]; exact h)]
 congr 2
 simp [kidsL]
theorem kidsL_all (t : Tr.F) : (kidsL t).take t.size = kidsL t := List.take_of_length_le (by rw [kidsL_len]; exact Nat.le_refl _)
def NAPost (t u : Tr.F) (w : World) (e : Ending) (w' : World) : Prop := ∃ ga gm At ct Au cu, e = .returned (.pointer (some ⟨ga, 0, none⟩)) ∧ t.size ≤ ct ∧ u.size ≤ cu ∧ PInv ga gm ct cu w.heap.size At Au t u w' 0 (.map []) ∧ Below w.heap.size w w'
theorem own_map0 {w : World} {gm : Nat} (h : w.heap[gm]? = some (.map #[] 0)) : w.ownsMap (H := Unit) Try.prog 9 (plainElem Try.prog 2) gm 0 (.map []) := by
 exact ⟨#[], 0, h, ⟨by simp, Go.MapKept.stamped_empty 0, by simp⟩, Nat.le_refl _, rfl⟩

set_option maxHeartbeats 8000000 in
set_option maxRecDepth 100000 in
theorem newAgreeing_ (k : Nat) (A0 : Option Addr) (c0 : Nat) (l0 : List Int) (A1 : Option Addr) (c1 : Nat) (l1 : List Int) {t u : Tr.F} (hT : Tr.Tree l0 t) (hU : Tr.Tree l1 u) (w : World) (hr0 : Kd.C (Kd.int .i64) w A0 l0.length l0) (hc0 : l0.length ≤ c0) (hr1 : Kd.C (Kd.int .i64) w A1 l1.length l1) (hc1 : l1.length ≤ c1) (hk0 : ∀ v : Nat, v < t.size → impl_kidsOf.f k l0 (v : Int) = some ((t.sub v).roots (v + 1))) (hk1 : ∀ v : Nat, v < u.size → impl_kidsOf.f k l1 (v : Int) = some ((u.sub v).roots (v + 1))) :
  Calls Try.prog 98 #[.agg #[.slice A0 l0.length c0], .agg #[.slice A1 l1.length c1]] w (NAPost t u w) := by
 have HR0 := Aside0.mk hr0
 have HR1 := Aside0.mk hr1
 have HC0 := Aside0.mk hc0
 have HC1 := Aside0.mk hc1
 have HK0 := Aside0.mk hk0
 have HK1 := Aside0.mk hk1
 have HLS0 := Aside0.mk hT.len
 have HLS1 := Aside0.mk hU.len
 have HLE := Aside0.mk (And.intro hT.few hU.few)
 clear hr0 hr1 hc0 hc1 hk0 hk1 hT hU
 have hmm := @run_makeMap Try.prog
 go_enter Try.func98, Try.ntmps98
 go_wp2_with (first | ((with_reducible refine gate_dst (N := 2) rfl ?_); refine box_event ?hg (N := 2) ?hd (cs := #[.slice A0 l0.length c0]) (t := 26) ?hr ?_; (case hd => rfl); (case hg => rfl); (case hr => first | (go_simp; done) | (go_simp; rfl)); intro bt hbt w1 hbox hb; have HB := Aside0.mk hb; have BT := Aside0.mk hbox; have ht0 := (blk_cell hbox 0).trans rfl; clear hbt; clear hbox hb) | ((with_reducible refine gate_dst (N := 3) rfl ?_); refine box_event ?hg (N := 3) ?hd (cs := #[.slice A1 l1.length c1]) (t := 26) ?hr ?_; (case hd => rfl); (case hg => rfl); (case hr => first | (go_simp; done) | (go_simp; rfl)); intro bu hbu w2 hbox hb; have n_ := Aside0.mk (below_step HB.out hb); have m_ := Aside0.mk (blk_below BT.out hb); have l_ := Aside0.mk (ne_new hbu BT.out); clear HB BT; have HB := n_; have BT := m_; have NTU := l_; clear n_ m_ l_; have BU := Aside0.mk hbox; clear hbu; clear hbox hb) | ((with_reducible refine gate_dst (N := 8) rfl ?_); refine Kd.event_run (v := .map (some w2.heap.size)) (w1 := w2.alloc (.map #[] 0)) rfl (by go_simp) ?_; obtain ⟨gm, hgm⟩ : ∃ gm, gm = w2.heap.size := ⟨_, rfl⟩; rw [← hgm]; have hbm := below_alloc (Below.refl w2.heap.size w2) (.map #[] 0); have HGM := Aside0.mk (show (w2.alloc (.map #[] 0)).heap[gm]? = some (.map #[] 0) from by rw [hgm]; exact blk_new w2 _); have n_ := Aside0.mk (below_step HB.out hbm); have m_ := Aside0.mk (blk_below BT.out hbm); have k_ := Aside0.mk (blk_below BU.out hbm); have NGM := Aside0.mk (And.intro (ne_new hgm BT.out) (ne_new hgm BU.out)); have HGE := Aside0.mk (ge_new hgm HB.out); clear HB BT BU hbm hgm; have HB := n_; have BT := m_; have BU := k_; clear n_ m_ k_; generalize w2.alloc (.map #[] 0) = w3 at HB BT BU HGM ⊢) | ((with_reducible refine gate_dst (N := 10) rfl ?_); refine box_event ?hg (N := 10) ?hd (cs := #[.slice none 0 0, .slice none 0 0, .map (some gm)]) (t := 128) ?hr ?_; (case hd => rfl); (case hg => rfl); (case hr => first | (go_simp; done) | (go_simp; rfl)); intro ga hga wh1 hbox hb; have n_ := Aside0.mk (below_step HB.out hb); have m_ := Aside0.mk (blk_below BT.out hb); have k_ := Aside0.mk (blk_below BU.out hb); have j_ := Aside0.mk (blk_below HGM.out hb); have HGAE := Aside0.mk (ge_new hga HB.out); have HNB := Aside0.mk (And.intro (ne_new hga BT.out) (And.intro (ne_new hga BU.out) (ne_new hga HGM.out))); clear HB BT BU HGM; have HB := n_; have BT := m_; have BU := k_; have HGM := j_; clear n_ m_ k_ j_; have HGA := Aside0.mk hbox; have hz0 : wh1.cell? ⟨bt, 0, none⟩ = some (.slice A0 l0.length c0) := (blk_cell BT.out 0).trans rfl; clear hga; clear hbox hb))
 have HNE := Aside0.mk (show (¬ bt = ga) ∧ (¬ bu = ga) from ⟨fun e => HNB.out.1 e.symm, fun e => HNB.out.2.1 e.symm⟩)
 have HLTS1 := Aside0.mk (blk_lt HGA.out)
 have HGA1 := HGA
 have BT1 := BT
 have BU1 := BU
 have HB1 := HB
 have HGML := Aside0.mk (blk_lt HGM.out)
 have HNGA := Aside0.mk (show ¬ gm = ga from fun e => HNB.out.2.2 e.symm)
 clear HGA BT BU HB hz0 hmm
 go_loopw [14] (fun vv w' => ∃ (v : Nat) (s : List (List Int)) (sA : Option Addr) (sc : Nat), vv = .int .i64 (v : Int) ∧ Aside0 (v ≤ t.size) ∧ Aside0 (s = (kidsL t).take v) ∧ Aside0 (Kd.R (Kd.slice 2 (Kd.int .i64)) 24 w' wh1.heap.size (fun _ => True) (.slice sA s.length sc) s) ∧ Aside0 (w'.heap[ga]? = some (.cells #[.slice sA s.length sc, .slice none 0 0, .map (some gm)] 128 (0, 0))) ∧ Aside0 (Kept wh1 w' (fun k_ => k_ = ga)) ∧ Aside0 (Below w.heap.size w w')) (fun vv _ => t.size - (intOf vv).toNat)
 case atStart => exact ⟨0, [], none, 0, rfl, ⟨Nat.zero_le _⟩, ⟨rfl⟩, ⟨Kd.R_nil _ _ _ _ _⟩, HGA1, ⟨Kept.refl _ _⟩, HB1⟩
 case round =>
  obtain ⟨v, s, sA, sc, rfl, hv, HS, HO, HGA, HKP, HB⟩ := hrel
  have hlsz := HLS0.out
  by_cases hlt : v < t.size
  ·have hl : ((v : Nat) : Int) < ((l0.length : Nat) : Int) := by omega
   have HBT := Aside0.mk (blk_kept BT1.out HKP.out HNE.out.1)
   have HBU := Aside0.mk (blk_kept BU1.out HKP.out HNE.out.2)
   have hw1 : wrap64 ((v : Int) + 1) = ((v + 1 : Nat) : Int) := by have := HLE.out; rw [Tr.wrap_id (by omega) (by omega)]; omega
   have HW1 := Aside0.mk hw1
   have HLT := Aside0.mk hlt
   have HLEN := Aside0.mk (show (s.length + 1) * 24 ≤ 140737488355328 by have h_ := HLE.out; rw [HS.out, List.length_take, kidsL_len]; omega)
   clear hlt hlsz hw1
   go_wp2
   have HO_ := Aside0.mk (Kd.R_drew HO.out)
   have HGA_ := Aside0.mk (blk_drew HGA.out)
   have HKP_ := Aside0.mk (Kept.drew HKP.out)
   have HB_ := Aside0.mk (below_drew1 HB.out)
   have HBT_ := Aside0.mk (blk_drew HBT.out)
   have HBU_ := Aside0.mk (blk_drew HBU.out)
   clear HO HGA HKP HB HBT HBU
   have HO := HO_
   clear HO_
   have HGA := HGA_
   clear HGA_
   have HKP := HKP_
   clear HKP_
   have HB := HB_
   clear HB_
   have HBT := HBT_
   clear HBT_
   have HBU := HBU_
   clear HBU_
   refine start_ (n := 14) (S := fun w' => w'.cell? ⟨ga, 0, none⟩ = some (.slice sA s.length sc) ∧ w'.cell? ⟨bt, 0, none⟩ = some (.slice A0 l0.length c0)) (ds := [13]) #[false, false, false, false, false, false, false, false, false, false, false, false, false, false] (by kernel_rfl) rfl rfl (⟨(blk_cell HGA.out 0).trans rfl, (blk_cell HBT.out 0).trans rfl⟩) (fun hHeld => ?_)
   generalize wr.drew = w2 at HO HGA HKP HB HBT HBU hHeld ⊢
   refine pure_ (i := 0) (N := some 17) (v := ?_) (a' := ?_) (tf 1 13) rfl rfl (by kernel_rfl) (fun _ _ _ h => h) (Or.inl ⟨by rfl, ?_⟩) ?_ ?_
   rotate_left
   ·intro w'
    go_simp
    with_reducible rfl
   rotate_left
   ·simp only [Act.put, sIB, sc0, scs, i64_w, i32_w]
    rfl
   refine pure_ (i := 1) (N := some 18) (v := ?_) (a' := ?_) (tf 2 12) rfl rfl (by kernel_rfl) (fun _ _ _ h => h) (Or.inl ⟨by rfl, ?_⟩) ?_ ?_
   rotate_left
   ·intro w'
    go_simp
    with_reducible rfl
   rotate_left
   ·simp only [Act.put, sIB, sc0, scs, i64_w, i32_w]
    rfl
   refine pure_ (i := 2) (N := some 19) (v := ?_) (a' := ?_) (tf 3 11) rfl rfl (by kernel_rfl) (fun _ _ _ h => h) (Or.inl ⟨by rfl, ?_⟩) ?_ ?_
   rotate_left
   ·intro w'
    go_simp
    with_reducible rfl
   rotate_left
   ·simp only [Act.put, sIB, sc0, scs, i64_w, i32_w]
    rfl
   refine pure_ (i := 3) (N := some 20) (v := ?_) (a' := ?_) (tf 4 10) rfl rfl (by kernel_rfl) (fun _ _ _ h => h) (Or.inl ⟨by rfl, ?_⟩) ?_ ?_
   rotate_left
   ·intro w'
    go_simp
    with_reducible rfl
   rotate_left
   ·simp only [Act.put, sIB, sc0, scs, i64_w, i32_w]
    rfl
   refine pure_ (i := 5) (N := some 22) (v := ?_) (a' := ?_) #[true, true, true, true, false, true, false, false, false, false, false, false, false, false] rfl rfl (by kernel_rfl) (fun _ _ _ h => h) (Or.inl ⟨by rfl, ?_⟩) ?_ ?_
   rotate_left
   ·intro w'
    go_simp
    with_reducible rfl
   rotate_left
   ·simp only [Act.put, sIB, sc0, scs, i64_w, i32_w]
    rfl
   refine pure_ (i := 7) (N := some 24) (v := ?_) (a' := ?_) #[true, true, true, true, false, true, false, true, false, false, false, false, false, false] rfl rfl (by kernel_rfl) (fun _ _ _ h => h) (Or.inl ⟨by rfl, ?_⟩) ?_ ?_
   rotate_left
   ·intro w'
    go_simp
    with_reducible rfl
   rotate_left
   ·simp only [Act.put, sIB, sc0, scs, i64_w, i32_w]
    rfl
   refine take_ (i := 4) (N := some 21) (v := ?_) (a' := ?_) #[true, true, true, true, true, true, false, true, false, false, false, false, false, false] rfl rfl (by kernel_rfl) (fun _ _ _ h => h) (Or.inl ⟨by rfl, ?_⟩) hHeld ?_ ?_
   rotate_left
   ·rintro w' ⟨s0, s1⟩
    go_simp
    with_reducible rfl
   rotate_left
   ·simp only [Act.put, sIB, sc0, scs, i64_w, i32_w]
    rfl
   refine take_ (i := 6) (N := some 23) (v := ?_) (a' := ?_) (tf 8 6) rfl rfl (by kernel_rfl) (fun _ _ _ h => h) (Or.inl ⟨by rfl, ?_⟩) hHeld ?_ ?_
   rotate_left
   ·rintro w' ⟨s0, s1⟩
    go_simp
    with_reducible rfl
   rotate_left
   ·simp only [Act.put, sIB, sc0, scs, i64_w, i32_w]
    rfl
   refine one_ (i := 8) (N := some 25) (tf 9 5) rfl rfl (by kernel_rfl) (by decide) (fun K hK => ?_)
   refine goes_ Try.func65 (by kernel_rfl) rfl #[.slice A0 l0.length c0, .int .i64 (v : Int)] (by rfl) rfl rfl (by (try simp only [List.map_toArray, List.map_cons, List.map_nil]); first | done | rfl) ?_
   refine (impl_kidsOf.calls k _ _ l0 (v : Int) _ _ (Kd.C_below HR0.out HB.out) HC0.out (HK0.out v HLT.out)).mono ?_
   rintro e w3 ⟨v0_, rfl, ho, hb⟩
   refine ⟨_, rfl, ?_⟩
   obtain ⟨Ak, ck, e_⟩ := Kd.R_slice ho
   subst e_
   have l5_ := Kd.R_lt HO.out
   have l6_ := HKP.out.1
   have hrow := Aside0.mk (Kd.R_mono (ok' := fun k_ => some k_ ≠ (.slice sA s.length sc : Value).ownBlock) (Kd.R_lower (Kd.R_bound ho) l6_) (fun k_ hk_ => fun e_ => Nat.lt_irrefl _ (Nat.lt_of_lt_of_le (l5_ k_ e_.symm) hk_.2.1)))
   clear l5_ l6_ ho
   have HO_ := Aside0.mk (Kd.R_below HO.out hb)
   have HGA_ := Aside0.mk (blk_below HGA.out hb)
   have HKP_ := Aside0.mk (Kept.below HKP.out hb)
   have HB_ := Aside0.mk (below_step HB.out hb)
   have HBT_ := Aside0.mk (blk_below HBT.out hb)
   have HBU_ := Aside0.mk (blk_below HBU.out hb)
   clear HO HGA HKP HB HBT HBU
   have HO := HO_
   clear HO_
   have HGA := HGA_
   clear HGA_
   have HKP := HKP_
   clear HKP_
   have HB := HB_
   clear HB_
   have HBT := HBT_
   clear HBT_
   have HBU := HBU_
   clear HBU_
   clear hb
   refine hK.out _ _ ⟨(blk_cell HGA.out 0).trans rfl, (blk_cell HBT.out 0).trans rfl⟩ (fun hHeld => ?_)
   clear hK K
   refine norm_ (a' := ?_) ?_ ?_
   rotate_left
   ·show Act.put _ (some 25) _ = _
    simp only [Act.put, sIB, sc0, scs, i64_w, i32_w]
    rfl
   refine one_ (i := 9) (N := some 26) (tf 10 4) rfl rfl (by kernel_rfl) (by decide) (fun K hK => ?_)
   refine event_step (v := .slice (some ⟨w3.heap.size, 0, none⟩) 1 1) (w1 := w3.alloc (.cells [.slice Ak ((t.sub v).roots (v + 1)).length ck].toArray 24)) (by rfl) (by go_simp) ?_
   refine hK.out _ _ ⟨pw_cell_below (below_alloc (Below.refl _ w3) _) hHeld.1, pw_cell_below (below_alloc (Below.refl _ w3) _) hHeld.2⟩ (fun hHeld2 => ?_)
   clear hK K
   refine norm_ (a' := ?_) ?_ ?_
   rotate_left
   ·show Act.put _ (some 26) _ = _
    simp only [Act.put, sIB, sc0, scs, i64_w, i32_w]
    rfl
   refine one_ (i := 10) (N := some 27) (tf 11 3) rfl rfl (by kernel_rfl) (by decide) (fun K hK => ?_)
   refine Kd.R_append_step (Kd.slice 2 (Kd.int .i64)) (w0 := w3) wh1.heap.size (by rfl) (.tmp 21) (.tmp 26) 28 24 (.slice none 0 0) 24 rfl Try.underlying28 info24 rfl (by decide) (by omega) (.slice sA s.length sc) s ((t.sub v).roots (v + 1)) [.slice Ak ((t.sub v).roots (v + 1)).length ck] (fun _ => True) (fun k_ => some k_ ≠ (.slice sA s.length sc : Value).ownBlock) rfl rfl (Kd.M_row hrow.out) (fun k_ hk_ => ⟨trivial, hk_⟩) (fun _ _ => trivial) HO.out (Below.refl _ _) HKP.out.1 HLEN.out ?_
   intro v1 w4 ho hb hg hat
   clear hat hb
   obtain ⟨sA2, sc2, e_⟩ := Kd.R_slice ho
   subst e_
   have nb := Kd.R_base HO.out
   have HGA2 := Aside0.mk ((hg.block ga (blk_lt HGA.out) (fun e => Nat.lt_irrefl _ (Nat.lt_of_lt_of_le HLTS1.out (nb ga e.symm)))).trans HGA.out)
   have HKP2 := Aside0.mk (Kept.of_grown hg HKP.out (fun k_ hk_ => .inr (nb k_ hk_)))
   have HB2 := Aside0.mk (HB.out.grown hg HB.out.size (fun k_ hk_ => Nat.le_trans HB1.out.size (nb k_ hk_)))
   have HO2 := Aside0.mk ho
   have HBX2 := Aside0.mk (blk_kept BT1.out HKP2.out HNE.out.1)
   clear HGA HBT HBU HO HB HKP ho hg nb hHeld hHeld2 hrow
   refine hK.out _ _ ⟨(blk_cell HGA2.out 0).trans rfl, (blk_cell HBX2.out 0).trans rfl⟩ (fun hHeld => ?_)
   clear hK K
   refine norm_ (a' := ?_) ?_ ?_
   rotate_left
   ·show Act.put _ (some 27) _ = _
    simp only [Act.put, sIB, sc0, scs, i64_w, i32_w]
    rfl
   refine pure_ (i := 11) (N := some 28) (v := ?_) (a' := ?_) (tf 12 2) rfl rfl (by kernel_rfl) (fun _ _ _ h => h) (Or.inl ⟨by rfl, ?_⟩) ?_ ?_
   rotate_left
   ·intro w'
    go_simp
    with_reducible rfl
   rotate_left
   ·simp only [Act.put, sIB, sc0, scs, i64_w, i32_w]
    rfl
   refine pure_ (i := 12) (N := some 29) (v := ?_) (a' := ?_) (tf 13 1) rfl rfl (by kernel_rfl) (fun _ _ _ h => h) (Or.inl ⟨by rfl, ?_⟩) ?_ ?_
   rotate_left
   ·intro w'
    go_simp
    with_reducible rfl
   rotate_left
   ·simp only [Act.put, sIB, sc0, scs, i64_w, i32_w]
    rfl
   refine last_ (i := 13) (N := none) #[true, true, true, true, true, true, true, true, true, true, true, true, true, true] rfl rfl (by kernel_rfl) (by decide) (fun K hK => ?_)
   have hs0 := hHeld.1
   have hf0 := blk_frozen HGA2.out 0
   refine skip_ (w1 := w4.setCell ⟨ga, 0, none⟩ (.slice sA2 (s ++ [(t.sub v).roots (v + 1)]).length sc2)) (by rfl) rfl (by go_simp) ?_
   clear hs0 hf0 hHeld
   refine hK.out _ _ ?_
   clear hK K
   refine done_ (by kernel_rfl) ?_
 
   go_wp2
   go_roundw
   case measure =>
    have h_ := HLT.out
    first | (rw [HW1.out]; simp only [intOf, Int.toNat_natCast]; exact Nat.sub_lt_sub_left h_ (Nat.lt_succ_self v)) | (simp only [intOf, Int.toNat_natCast]; exact Nat.sub_lt_sub_left h_ (Nat.lt_succ_self v))
   case rel =>
    refine ⟨v + 1, s ++ [(t.sub v).roots (v + 1)], sA2, sc2, by first | rfl | (rw [HW1.out]), ⟨HLT.out⟩, ⟨by rw [kidsL_take HLT.out, HS.out]⟩, ⟨?_⟩, ⟨(blk_set HGA2.out 0 _).trans (by rw [List.length_append]; rfl)⟩, ⟨HKP2.out.setCell (.inl rfl) _⟩, ⟨HB2.out.setCell HGAE.out _⟩⟩
    exact Kd.R_mono (Kd.R_far (p := ⟨ga, 0, none⟩) (Kd.R_bound HO2.out) (fun k_ hk_ e_ => Nat.lt_irrefl _ (Nat.lt_of_lt_of_le HLTS1.out (by rw [← (show k_ = ga from e_)]; exact hk_.2.1))) _) (fun _ _ => trivial)

  ·have hl : ¬ ((v : Nat) : Int) < ((l0.length : Nat) : Int) := by omega
   have hvv := hv.out
   have hs : s = kidsL t := by rw [HS.out, show v = t.size by omega, kidsL_all]
   subst hs
   have HBU := Aside0.mk (blk_kept BU1.out HKP.out HNE.out.2)
   have hz1 : wr.cell? ⟨bu, 0, none⟩ = some (.slice A1 l1.length c1) := (blk_cell HBU.out 0).trans rfl
   clear hlt hvv hlsz
   go_wp2
   clear hz1
   generalize sA = At at HO HGA ⊢
   generalize sc = ct at HO HGA ⊢
   have BT2 := Aside0.mk (blk_kept BT1.out HKP.out HNE.out.1)
   have HGM2 := Aside0.mk (blk_kept HGM.out HKP.out HNGA.out)
   have BU2 := HBU
   have HGA2_ := HGA
   have HB2_ := HB
   have HT1 := HO
   have HLTS2 := Aside0.mk (blk_lt HGA.out)
   have HKP1 := HKP
   clear HBU HGA HB HO HKP HS hv hl
   have HGA2 := HGA2_
   have HB2 := HB2_
   clear HGA2_ HB2_
   generalize wr = wh2 at BT2 BU2 HGM2 HGA2 HB2 HT1 HLTS2 HKP1 ⊢
   go_loopw [34] (fun vv w' => ∃ (v : Nat) (s : List (List Int)) (sA : Option Addr) (sc : Nat), vv = .int .i64 (v : Int) ∧ Aside0 (v ≤ u.size) ∧ Aside0 (s = (kidsL u).take v) ∧ Aside0 (Kd.R (Kd.slice 2 (Kd.int .i64)) 24 w' wh2.heap.size (fun _ => True) (.slice sA s.length sc) s) ∧ Aside0 (w'.heap[ga]? = some (.cells #[.slice At (kidsL t).length ct, .slice sA s.length sc, .map (some gm)] 128 (0, 0))) ∧ Aside0 (Kept wh2 w' (fun k_ => k_ = ga)) ∧ Aside0 (Below w.heap.size w w')) (fun vv _ => u.size - (intOf vv).toNat)
   case atStart => exact ⟨0, [], none, 0, rfl, ⟨Nat.zero_le _⟩, ⟨rfl⟩, ⟨Kd.R_nil _ _ _ _ _⟩, HGA2, ⟨Kept.refl _ _⟩, HB2⟩
   case round =>
    obtain ⟨v, s, sA, sc, rfl, hv, HS, HO, HGA, HKP, HB⟩ := hrel
    have hlsz := HLS1.out
    by_cases hlt : v < u.size
    ·have hl : ((v : Nat) : Int) < ((l1.length : Nat) : Int) := by omega
     have HBT := Aside0.mk (blk_kept BT2.out HKP.out HNE.out.1)
     have HBU := Aside0.mk (blk_kept BU2.out HKP.out HNE.out.2)
     have hw1 : wrap64 ((v : Int) + 1) = ((v + 1 : Nat) : Int) := by have := HLE.out; rw [Tr.wrap_id (by omega) (by omega)]; omega
     have HW1 := Aside0.mk hw1
     have HLT := Aside0.mk hlt
     have HLEN := Aside0.mk (show (s.length + 1) * 24 ≤ 140737488355328 by have h_ := HLE.out; rw [HS.out, List.length_take, kidsL_len]; omega)
     clear hlt hlsz hw1
     go_wp2
     have HO_ := Aside0.mk (Kd.R_drew HO.out)
     have HGA_ := Aside0.mk (blk_drew HGA.out)
     have HKP_ := Aside0.mk (Kept.drew HKP.out)
     have HB_ := Aside0.mk (below_drew1 HB.out)
     have HBT_ := Aside0.mk (blk_drew HBT.out)
     have HBU_ := Aside0.mk (blk_drew HBU.out)
     clear HO HGA HKP HB HBT HBU
     have HO := HO_
     clear HO_
     have HGA := HGA_
     clear HGA_
     have HKP := HKP_
     clear HKP_
     have HB := HB_
     clear HB_
     have HBT := HBT_
     clear HBT_
     have HBU := HBU_
     clear HBU_
     refine start_ (n := 14) (S := fun w' => w'.cell? ⟨ga, 1, none⟩ = some (.slice sA s.length sc) ∧ w'.cell? ⟨bu, 0, none⟩ = some (.slice A1 l1.length c1)) (ds := [13]) #[false, false, false, false, false, false, false, false, false, false, false, false, false, false] (by kernel_rfl) rfl rfl (⟨(blk_cell HGA.out 1).trans rfl, (blk_cell HBU.out 0).trans rfl⟩) (fun hHeld => ?_)
     generalize wr.drew = w2 at HO HGA HKP HB HBT HBU hHeld ⊢
     refine pure_ (i := 0) (N := some 37) (v := ?_) (a' := ?_) (tf 1 13) rfl rfl (by kernel_rfl) (fun _ _ _ h => h) (Or.inl ⟨by rfl, ?_⟩) ?_ ?_
     rotate_left
     ·intro w'
      go_simp
      with_reducible rfl
     rotate_left
     ·simp only [Act.put, sIB, sc0, scs, i64_w, i32_w]
      rfl
     refine pure_ (i := 1) (N := some 38) (v := ?_) (a' := ?_) (tf 2 12) rfl rfl (by kernel_rfl) (fun _ _ _ h => h) (Or.inl ⟨by rfl, ?_⟩) ?_ ?_
     rotate_left
     ·intro w'
      go_simp
      with_reducible rfl
     rotate_left
     ·simp only [Act.put, sIB, sc0, scs, i64_w, i32_w]
      rfl
     refine pure_ (i := 2) (N := some 39) (v := ?_) (a' := ?_) (tf 3 11) rfl rfl (by kernel_rfl) (fun _ _ _ h => h) (Or.inl ⟨by rfl, ?_⟩) ?_ ?_
     rotate_left
     ·intro w'
      go_simp
      with_reducible rfl
     rotate_left
     ·simp only [Act.put, sIB, sc0, scs, i64_w, i32_w]
      rfl
     refine pure_ (i := 3) (N := some 40) (v := ?_) (a' := ?_) (tf 4 10) rfl rfl (by kernel_rfl) (fun _ _ _ h => h) (Or.inl ⟨by rfl, ?_⟩) ?_ ?_
     rotate_left
     ·intro w'
      go_simp
      with_reducible rfl
     rotate_left
     ·simp only [Act.put, sIB, sc0, scs, i64_w, i32_w]
      rfl
     refine pure_ (i := 5) (N := some 42) (v := ?_) (a' := ?_) #[true, true, true, true, false, true, false, false, false, false, false, false, false, false] rfl rfl (by kernel_rfl) (fun _ _ _ h => h) (Or.inl ⟨by rfl, ?_⟩) ?_ ?_
     rotate_left
     ·intro w'
      go_simp
      with_reducible rfl
     rotate_left
     ·simp only [Act.put, sIB, sc0, scs, i64_w, i32_w]
      rfl
     refine pure_ (i := 7) (N := some 44) (v := ?_) (a' := ?_) #[true, true, true, true, false, true, false, true, false, false, false, false, false, false] rfl rfl (by kernel_rfl) (fun _ _ _ h => h) (Or.inl ⟨by rfl, ?_⟩) ?_ ?_
     rotate_left
     ·intro w'
      go_simp
      with_reducible rfl
     rotate_left
     ·simp only [Act.put, sIB, sc0, scs, i64_w, i32_w]
      rfl
     refine take_ (i := 4) (N := some 41) (v := ?_) (a' := ?_) #[true, true, true, true, true, true, false, true, false, false, false, false, false, false] rfl rfl (by kernel_rfl) (fun _ _ _ h => h) (Or.inl ⟨by rfl, ?_⟩) hHeld ?_ ?_
     rotate_left
     ·rintro w' ⟨s0, s1⟩
      go_simp
      with_reducible rfl
     rotate_left
     ·simp only [Act.put, sIB, sc0, scs, i64_w, i32_w]
      rfl
     refine take_ (i := 6) (N := some 43) (v := ?_) (a' := ?_) (tf 8 6) rfl rfl (by kernel_rfl) (fun _ _ _ h => h) (Or.inl ⟨by rfl, ?_⟩) hHeld ?_ ?_
     rotate_left
     ·rintro w' ⟨s0, s1⟩
      go_simp
      with_reducible rfl
     rotate_left
     ·simp only [Act.put, sIB, sc0, scs, i64_w, i32_w]
      rfl
     refine one_ (i := 8) (N := some 45) (tf 9 5) rfl rfl (by kernel_rfl) (by decide) (fun K hK => ?_)
     refine goes_ Try.func65 (by kernel_rfl) rfl #[.slice A1 l1.length c1, .int .i64 (v : Int)] (by rfl) rfl rfl (by (try simp only [List.map_toArray, List.map_cons, List.map_nil]); first | done | rfl) ?_
     refine (impl_kidsOf.calls k _ _ l1 (v : Int) _ _ (Kd.C_below HR1.out HB.out) HC1.out (HK1.out v HLT.out)).mono ?_
     rintro e w3 ⟨v0_, rfl, ho, hb⟩
     refine ⟨_, rfl, ?_⟩
     obtain ⟨Ak, ck, e_⟩ := Kd.R_slice ho
     subst e_
     have l5_ := Kd.R_lt HO.out
     have l6_ := HKP.out.1
     have hrow := Aside0.mk (Kd.R_mono (ok' := fun k_ => some k_ ≠ (.slice sA s.length sc : Value).ownBlock) (Kd.R_lower (Kd.R_bound ho) l6_) (fun k_ hk_ => fun e_ => Nat.lt_irrefl _ (Nat.lt_of_lt_of_le (l5_ k_ e_.symm) hk_.2.1)))
     clear l5_ l6_ ho
     have HO_ := Aside0.mk (Kd.R_below HO.out hb)
     have HGA_ := Aside0.mk (blk_below HGA.out hb)
     have HKP_ := Aside0.mk (Kept.below HKP.out hb)
     have HB_ := Aside0.mk (below_step HB.out hb)
     have HBT_ := Aside0.mk (blk_below HBT.out hb)
     have HBU_ := Aside0.mk (blk_below HBU.out hb)
     clear HO HGA HKP HB HBT HBU
     have HO := HO_
     clear HO_
     have HGA := HGA_
     clear HGA_
     have HKP := HKP_
     clear HKP_
     have HB := HB_
     clear HB_
     have HBT := HBT_
     clear HBT_
     have HBU := HBU_
     clear HBU_
     clear hb
     refine hK.out _ _ ⟨(blk_cell HGA.out 1).trans rfl, (blk_cell HBU.out 0).trans rfl⟩ (fun hHeld => ?_)
     clear hK K
     refine norm_ (a' := ?_) ?_ ?_
     rotate_left
     ·show Act.put _ (some 45) _ = _
      simp only [Act.put, sIB, sc0, scs, i64_w, i32_w]
      rfl
     refine one_ (i := 9) (N := some 46) (tf 10 4) rfl rfl (by kernel_rfl) (by decide) (fun K hK => ?_)
     refine event_step (v := .slice (some ⟨w3.heap.size, 0, none⟩) 1 1) (w1 := w3.alloc (.cells [.slice Ak ((u.sub v).roots (v + 1)).length ck].toArray 24)) (by rfl) (by go_simp) ?_
     refine hK.out _ _ ⟨pw_cell_below (below_alloc (Below.refl _ w3) _) hHeld.1, pw_cell_below (below_alloc (Below.refl _ w3) _) hHeld.2⟩ (fun hHeld2 => ?_)
     clear hK K
     refine norm_ (a' := ?_) ?_ ?_
     rotate_left
     ·show Act.put _ (some 46) _ = _
      simp only [Act.put, sIB, sc0, scs, i64_w, i32_w]
      rfl
     refine one_ (i := 10) (N := some 47) (tf 11 3) rfl rfl (by kernel_rfl) (by decide) (fun K hK => ?_)
     refine Kd.R_append_step (Kd.slice 2 (Kd.int .i64)) (w0 := w3) wh2.heap.size (by rfl) (.tmp 41) (.tmp 46) 28 24 (.slice none 0 0) 24 rfl Try.underlying28 info24 rfl (by decide) (by omega) (.slice sA s.length sc) s ((u.sub v).roots (v + 1)) [.slice Ak ((u.sub v).roots (v + 1)).length ck] (fun _ => True) (fun k_ => some k_ ≠ (.slice sA s.length sc : Value).ownBlock) rfl rfl (Kd.M_row hrow.out) (fun k_ hk_ => ⟨trivial, hk_⟩) (fun _ _ => trivial) HO.out (Below.refl _ _) HKP.out.1 HLEN.out ?_
     intro v1 w4 ho hb hg hat
     clear hat hb
     obtain ⟨sA2, sc2, e_⟩ := Kd.R_slice ho
     subst e_
     have nb := Kd.R_base HO.out
     have HGA2 := Aside0.mk ((hg.block ga (blk_lt HGA.out) (fun e => Nat.lt_irrefl _ (Nat.lt_of_lt_of_le HLTS2.out (nb ga e.symm)))).trans HGA.out)
     have HKP2 := Aside0.mk (Kept.of_grown hg HKP.out (fun k_ hk_ => .inr (nb k_ hk_)))
     have HB2 := Aside0.mk (HB.out.grown hg HB.out.size (fun k_ hk_ => Nat.le_trans HB2.out.size (nb k_ hk_)))
     have HO2 := Aside0.mk ho
     have HBX2 := Aside0.mk (blk_kept BU2.out HKP2.out HNE.out.2)
     clear HGA HBT HBU HO HB HKP ho hg nb hHeld hHeld2 hrow
     refine hK.out _ _ ⟨(blk_cell HGA2.out 1).trans rfl, (blk_cell HBX2.out 0).trans rfl⟩ (fun hHeld => ?_)
     clear hK K
     refine norm_ (a' := ?_) ?_ ?_
     rotate_left
     ·show Act.put _ (some 47) _ = _
      simp only [Act.put, sIB, sc0, scs, i64_w, i32_w]
      rfl
     refine pure_ (i := 11) (N := some 48) (v := ?_) (a' := ?_) (tf 12 2) rfl rfl (by kernel_rfl) (fun _ _ _ h => h) (Or.inl ⟨by rfl, ?_⟩) ?_ ?_
     rotate_left
     ·intro w'
      go_simp
      with_reducible rfl
     rotate_left
     ·simp only [Act.put, sIB, sc0, scs, i64_w, i32_w]
      rfl
     refine pure_ (i := 12) (N := some 49) (v := ?_) (a' := ?_) (tf 13 1) rfl rfl (by kernel_rfl) (fun _ _ _ h => h) (Or.inl ⟨by rfl, ?_⟩) ?_ ?_
     rotate_left
     ·intro w'
      go_simp
      with_reducible rfl
     rotate_left
     ·simp only [Act.put, sIB, sc0, scs, i64_w, i32_w]
      rfl
     refine last_ (i := 13) (N := none) #[true, true, true, true, true, true, true, true, true, true, true, true, true, true] rfl rfl (by kernel_rfl) (by decide) (fun K hK => ?_)
     have hs0 := hHeld.1
     have hf0 := blk_frozen HGA2.out 1
     refine skip_ (w1 := w4.setCell ⟨ga, 1, none⟩ (.slice sA2 (s ++ [(u.sub v).roots (v + 1)]).length sc2)) (by rfl) rfl (by go_simp) ?_
     clear hs0 hf0 hHeld
     refine hK.out _ _ ?_
     clear hK K
     refine done_ (by kernel_rfl) ?_
 
     go_wp2
     go_roundw
     case measure =>
      have h_ := HLT.out
      first | (rw [HW1.out]; simp only [intOf, Int.toNat_natCast]; exact Nat.sub_lt_sub_left h_ (Nat.lt_succ_self v)) | (simp only [intOf, Int.toNat_natCast]; exact Nat.sub_lt_sub_left h_ (Nat.lt_succ_self v))
     case rel =>
      refine ⟨v + 1, s ++ [(u.sub v).roots (v + 1)], sA2, sc2, by first | rfl | (rw [HW1.out]), ⟨HLT.out⟩, ⟨by rw [kidsL_take HLT.out, HS.out]⟩, ⟨?_⟩, ⟨(blk_set HGA2.out 1 _).trans (by rw [List.length_append]; rfl)⟩, ⟨HKP2.out.setCell (.inl rfl) _⟩, ⟨HB2.out.setCell HGAE.out _⟩⟩
      exact Kd.R_mono (Kd.R_far (p := ⟨ga, 1, none⟩) (Kd.R_bound HO2.out) (fun k_ hk_ e_ => Nat.lt_irrefl _ (Nat.lt_of_lt_of_le HLTS2.out (by rw [← (show k_ = ga from e_)]; exact hk_.2.1))) _) (fun _ _ => trivial)

    ·have hl : ¬ ((v : Nat) : Int) < ((l1.length : Nat) : Int) := by omega
     have hvv := hv.out
     have hs : s = kidsL u := by rw [HS.out, show v = u.size by omega, kidsL_all]
     subst hs
     clear hlt hvv hlsz
     go_wp2
     go_ret
     have g1_ := HLTS1.out
     have g2_ := HGML.out
     have g3_ := HKP1.out.1
     have RT := Kd.R_kept (Kd.R_bound HT1.out) HKP.out (fun k_ hk_ e_ => by have h1_ := hk_.2.1; omega)
     have RU := Kd.R_bound HO.out
     have e1 := kidsL_len t
     have e2 := kidsL_len u
     have c1_ := (Kd.R_reads' RT).2.1
     have c2_ := (Kd.R_reads' RU).2.1
     have KT := Kd.C_kept_own (S := fun k_ => k_ = gm) RT (fun k_ hk_ e_ => by have h1_ := hk_.2.1; omega)
     have KU := Kd.C_kept_own (S := fun k_ => k_ = gm) RU (fun k_ hk_ e_ => by have h1_ := hk_.2.1; omega)
     have hga := HGA.out
     rw [e1] at c1_ KT hga
     rw [e2] at c2_ KU hga
     exact ⟨ga, gm, At, ct, sA, sc, rfl, c1_, c2_, ⟨hga, own_map0 (blk_kept HGM2.out HKP.out HNGA.out), Tr.DV_start t u, KT, KU, HGE.out⟩, HB.out⟩

/-- The program's most pairs in common: told for two trees whose children are told. -/
def impl_inCommon.f (k : Nat) (l0 : List Int) (l1 : List Int) : Option Int := if Tr.isT l0 = true ∧ Tr.isT l1 = true ∧ (∀ v, v < l0.length → impl_kidsOf.f k l0 ((v : Nat) : Int) = some (((Tr.F.dec l0).sub v).roots (v + 1))) ∧ (∀ v, v < l1.length → impl_kidsOf.f k l1 ((v : Nat) : Int) = some (((Tr.F.dec l1).sub v).roots (v + 1))) then some ((Tr.F.pc (Tr.F.dec l0).mir (Tr.F.dec l1).mir : Nat) : Int) else none
theorem impl_inCommon.mono : ∀ a0 a1 k, LeO (impl_inCommon.f k a0 a1) (impl_inCommon.f (k + 1) a0 a1) := by
 intro a0 a1 k r h
 unfold impl_inCommon.f at h ⊢
 split at h
 ·rename_i hc
  rw [if_pos ⟨hc.1, hc.2.1, fun v hv => impl_kidsOf.mono _ _ _ _ (hc.2.2.1 v hv), fun v hv => impl_kidsOf.mono _ _ _ _ (hc.2.2.2 v hv)⟩]
  exact h
 ·cases h
set_option maxHeartbeats 8000000 in
set_option maxRecDepth 100000 in
theorem impl_inCommon.calls (k : Nat) (A0_0 : Option Addr) (c0_0 : Nat) (l0_0 : List Int) (A1_0 : Option Addr) (c1_0 : Nat) (l1_0 : List Int) (r : Int) (w : World) (hr0_0 : Kd.C (Kd.int .i64) w A0_0 l0_0.length l0_0) (hc0_0 : l0_0.length ≤ c0_0) (hr1_0 : Kd.C (Kd.int .i64) w A1_0 l1_0.length l1_0) (hc1_0 : l1_0.length ≤ c1_0) (h : impl_inCommon.f k l0_0 l1_0 = some r) :
  Calls Try.prog 88 #[.agg #[.slice A0_0 l0_0.length c0_0], .agg #[.slice A1_0 l1_0.length c1_0]] w fun e w' => e = .returned (.int .i64 r) ∧ Below w.heap.size w w' := by
 unfold impl_inCommon.f at h
 split at h
 ·rename_i hc
  obtain rfl := Option.some.inj h
  obtain ⟨ht0, ht1, hk0, hk1⟩ := hc
  obtain ⟨t, hT⟩ := Tr.Tree.of ht0
  obtain ⟨u, hU⟩ := Tr.Tree.of ht1
  rw [hT.dec, hT.len] at hk0
  rw [hU.dec, hU.len] at hk1
  rw [hT.dec, hU.dec]
  have HNEW := Aside0.mk (fun w h1 h2 => newAgreeing_ k A0_0 c0_0 l0_0 A1_0 c1_0 l1_0 hT hU w h1 hc0_0 h2 hc1_0 hk0 hk1)
  have HPAIRS := Aside0.mk (fun ga gm ct cu base At Au hct hcu => pairsAt ga gm ct cu base At Au hT hU hct hcu (t.mir.size + u.mir.size) t.mir u.mir [0] [0])
  have H3 := Aside0.mk (show t.mir.size ≤ 24 by rw [Tr.F.mir_size]; exact hT.few)
  have H4 := Aside0.mk (show u.mir.size ≤ 24 by rw [Tr.F.mir_size]; exact hU.few)
  have H5 := Aside0.mk (Tr.RL_whole hT)
  have H6 := Aside0.mk (Tr.RL_whole hU)
  have H7 := Aside0.mk (show 0 + Tr.F.st t.mir u.mir ≤ 9000000000000000000 by have := Tr.F.st_small H3.out H4.out; omega)
  have HR0 := Aside0.mk hr0_0
  have HR1 := Aside0.mk hr1_0
  clear h hr0_0 hr1_0 hc0_0 hc1_0 ht0 ht1 hk0 hk1 hT hU
  go_enter Try.func88, Try.ntmps88
  go_wp2_with (first | ((with_reducible refine gate_dst (N := 2) rfl ?_); refine box_event ?hg (N := 2) ?hd (cs := #[.slice A0_0 l0_0.length c0_0]) (t := 26) ?hr ?_; (case hd => rfl); (case hg => rfl); (case hr => first | (go_simp; done) | (go_simp; rfl)); intro bt hbt w1 hbox hb; have HB := Aside0.mk hb; have BT := Aside0.mk hbox; clear hbt; clear hbox hb) | ((with_reducible refine gate_dst (N := 3) rfl ?_); refine box_event ?hg (N := 3) ?hd (cs := #[.slice A1_0 l1_0.length c1_0]) (t := 26) ?hr ?_; (case hd => rfl); (case hg => rfl); (case hr => first | (go_simp; done) | (go_simp; rfl)); intro bu hbu w2 hbox hb; have n_ := Aside0.mk (below_step HB.out hb); have ht0 : w2.cell? ⟨bt, 0, none⟩ = some (.slice A0_0 l0_0.length c0_0) := (blk_cell (blk_below BT.out hb) 0).trans rfl; have hu0 : w2.cell? ⟨bu, 0, none⟩ = some (.slice A1_0 l1_0.length c1_0) := (blk_cell hbox 0).trans rfl; clear HB; have HB := n_; clear n_ hbu; clear hbox hb) | ((with_reducible refine gate_dst (N := 7) rfl ?_); refine goesL_ (some 7) rfl rfl Try.func98 (by kernel_rfl) rfl #[.agg #[.slice A0_0 l0_0.length c0_0], .agg #[.slice A1_0 l1_0.length c1_0]] rfl (by (try simp only [List.map_toArray, List.map_cons, List.map_nil]); first | done | rfl) ?_; refine (HNEW.out _ (Kd.C_below HR0.out HB.out) (Kd.C_below HR1.out HB.out)).mono ?_; rintro e w3 ⟨ga, gm, At, ct, Au, cu, rfl, hct, hcu, hp, hb⟩; refine ⟨_, rfl, ?_⟩; have HP := Aside0.mk hp; have HB_ := Aside0.mk (below_step HB.out hb); have HBS := Aside0.mk HB.out.size; have HCT := Aside0.mk hct; have HCU := Aside0.mk hcu; clear HB hp hb hct hcu; have HB := HB_; clear HB_) | ((with_reducible refine gate_dst (N := 8) rfl ?_); refine Kd.R_lit (Kd.int .i64) _ 2 ?hg (N := 8) ?hd (xs := ([0] : List Int)) (inner := [.int .i64 0]) (ok := fun _ => True) (okp := fun _ => True) ?hr ?hp (fun _ hk => hk) trivial (Below.refl _ _) (Nat.le_refl _) (by simp) ?_; (case hd => rfl); (case hg => rfl); (case hr => first | (go_simp; done) | (go_simp; rfl)); (case hp => exact (Reps.one (show Kd.M (Kd.int .i64) _ _ _ 0 [.int .i64 0] from rfl) (Reps.none _ _))); intro vl w4 ho hb hg_ hnew_; clear hg_ hnew_; obtain ⟨A8, c8, e_⟩ := Kd.R_slice ho; subst e_; have K8 := Aside0.mk (KC.own ho HP.out.lt); have HCK8 := Aside0.mk (Kd.R_reads' ho).2.1; have HP_ := Aside0.mk (HP.out.below hb); have HB_ := Aside0.mk (below_step HB.out hb); clear HP HB ho hb; have HP := HP_; have HB := HB_; clear HP_ HB_) | ((with_reducible refine gate_dst (N := 9) rfl ?_); refine Kd.R_lit (Kd.int .i64) _ 2 ?hg (N := 9) ?hd (xs := ([0] : List Int)) (inner := [.int .i64 0]) (ok := fun _ => True) (okp := fun _ => True) ?hr ?hp (fun _ hk => hk) trivial (Below.refl _ _) (Nat.le_refl _) (by simp) ?_; (case hd => rfl); (case hg => rfl); (case hr => first | (go_simp; done) | (go_simp; rfl)); (case hp => exact (Reps.one (show Kd.M (Kd.int .i64) _ _ _ 0 [.int .i64 0] from rfl) (Reps.none _ _))); intro vl w5 ho hb hg_ hnew_; clear hg_ hnew_; obtain ⟨A9, c9, e_⟩ := Kd.R_slice ho; subst e_; have K9 := Aside0.mk (KC.own ho HP.out.lt); have HCK9 := Aside0.mk (Kd.R_reads' ho).2.1; have HP_ := Aside0.mk (HP.out.below hb); have HB_ := Aside0.mk (below_step HB.out hb); have K8_ := Aside0.mk (K8.out.below hb); clear K8; have K8 := K8_; clear K8_; clear HP HB ho hb; have HP := HP_; have HB := HB_; clear HP_ HB_) | ((with_reducible refine gate_dst (N := 10) rfl ?_); refine goesL_ (some 10) rfl rfl Try.func99 (by kernel_rfl) rfl #[.pointer (some ⟨ga, 0, none⟩), .slice A8 ([0] : List Int).length c8, .slice A9 ([0] : List Int).length c9] rfl (by (try simp only [List.map_toArray, List.map_cons, List.map_nil]); first | done | rfl) ?_; refine (HPAIRS.out ga gm ct cu _ At Au HCT.out HCU.out A8 A9 c8 c9 0 _ _ (Nat.le_refl _) H3.out H4.out H5.out H6.out HP.out H7.out K8.out HCK8.out K9.out HCK9.out).mono ?_; rintro e w6 ⟨D', rfl, hp, hb, hk⟩; refine ⟨_, rfl, ?_⟩; have HB_ := Aside0.mk (HB.out.trans (hb.mono HBS.out)); clear HB HP hp hb hk; have HB := HB_; clear HB_))
  go_ret
  exact ⟨rfl, HB.out⟩
 ·cases h

end Go.Proofs.Ytlppkilencpmeaa.QFnTop
