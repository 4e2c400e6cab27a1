/- The memory of most pairs as a map from texts: its keys tell the lists of roots, and what it holds is right. Plain mathematics. -/
import Derived.Test.YtlppkilencpmeaaEd
import Derived.Maps.OwnSet
namespace Go.Proofs.Ytlppkilencpmeaa.Tr
open Go.RowKit Go.Proofs.YtlppkilencpmeaaW.PrintWords Go
set_option linter.unusedSimpArgs false
set_option linter.unusedVariables false
/-- The text of two lists of roots. -/
def kt (f g : List Int) : ByteArray := strOfNums (f ++ [255] ++ g)
def kl (f g : List Int) : Lit := .string (kt f g).data.toList
theorem kt_size (f g : List Int) : (kt f g).size = f.length + 1 + g.length := by unfold kt; rw [strOfNums_size]; simp; omega
theorem nums_inj : ∀ (x y : List Int), (∀ a ∈ x, 0 ≤ a ∧ a ≤ 255) → (∀ a ∈ y, 0 ≤ a ∧ a ≤ 255) → (x.map fun n => UInt8.ofNat n.toNat) = (y.map fun n => UInt8.ofNat n.toNat) → x = y := by
  intro x
  induction x with
  | nil => intro y _ _ h; cases y with
    | nil => rfl
    | cons b y => simp at h
  | cons a x ih =>
    intro y hx hy h
    cases y with
    | nil => simp at h
    | cons b y =>
      simp only [List.map_cons, List.cons.injEq] at h
      have ha := hx a (List.mem_cons_self ..)
      have hb := hy b (List.mem_cons_self ..)
      have h1 : a.toNat = b.toNat := by
        have := congrArg UInt8.toNat h.1
        simp only [UInt8.toNat_ofNat'] at this
        rw [Nat.mod_eq_of_lt (by omega), Nat.mod_eq_of_lt (by omega)] at this
        exact this
      rw [ih y (fun c hc => hx c (List.mem_cons_of_mem _ hc)) (fun c hc => hy c (List.mem_cons_of_mem _ hc)) h.2, show a = b by omega]
theorem cut255 : ∀ (f f' g g' : List Int), (255 : Int) ∉ f → (255 : Int) ∉ f' → f ++ 255 :: g = f' ++ 255 :: g' → f = f' ∧ g = g' := by
  intro f
  induction f with
  | nil =>
    intro f' g g' _ h2 h
    cases f' with
    | nil => exact ⟨rfl, (List.cons.inj h).2⟩
    | cons a f' =>
      have := (List.cons.inj h).1
      exact absurd (List.mem_cons.2 (.inl this)) h2
  | cons a f ih =>
    intro f' g g' h1 h2 h
    cases f' with
    | nil =>
      have := (List.cons.inj h).1
      exact absurd (List.mem_cons.2 (.inl this.symm)) h1
    | cons b f' =>
      obtain ⟨e1, e2⟩ := List.cons.inj h
      obtain ⟨e3, e4⟩ := ih f' g g' (fun q => h1 (List.mem_cons_of_mem _ q)) (fun q => h2 (List.mem_cons_of_mem _ q)) e2
      exact ⟨by rw [e1, e3], e4⟩
theorem RL_small {t : F} (ht : t.size ≤ 24) {f : List Int} {x : F} (h : F.RL t f x) : ∀ a ∈ f, 0 ≤ a ∧ a ≤ 23 := by
  intro a ha
  obtain ⟨u, rfl, hu⟩ := F.RL_mem x f h a ha
  omega
theorem kl_inj {t u : F} (ht : t.size ≤ 24) (hu : u.size ≤ 24) {f g f' g' : List Int} {x y x' y' : F} (h1 : F.RL t f x) (h2 : F.RL u g y) (h3 : F.RL t f' x') (h4 : F.RL u g' y') (h : kl f g = kl f' g') : f = f' ∧ g = g' := by
  unfold kl kt at h
  injection h with h
  rw [strOfNums_data, strOfNums_data] at h
  have s1 := RL_small ht h1
  have s2 := RL_small hu h2
  have s3 := RL_small ht h3
  have s4 := RL_small hu h4
  have e := nums_inj _ _ (fun a ha => by
    simp only [List.mem_append, List.mem_singleton] at ha
    rcases ha with (ha | ha) | ha
    · have := s1 a ha; omega
    · omega
    · have := s2 a ha; omega) (fun a ha => by
    simp only [List.mem_append, List.mem_singleton] at ha
    rcases ha with (ha | ha) | ha
    · have := s3 a ha; omega
    · omega
    · have := s4 a ha; omega) h
  rw [List.append_assoc, List.append_assoc] at e
  exact cut255 f f' g g' (fun q => by have := s1 _ q; omega) (fun q => by have := s3 _ q; omega) e
/-- What the map holds is right. -/
def DV (t u : F) (D : DataW Unit) : Prop := ∀ f g x y, F.RL t f x → F.RL u g y → Maps.has D (kl f g) = true → D.atKey (kl f g) (.lit (.int .i64 0)) = .lit (.int .i64 (F.pc x y : Int))
theorem DV_start (t u : F) : DV t u (.map []) := by
  intro f g x y _ _ h
  cases h
theorem DV_put {t u : F} (ht : t.size ≤ 24) (hu : u.size ≤ 24) {D : DataW Unit} (hD : Maps.IsMap D) (h : DV t u D) {f g : List Int} {x y : F} (h1 : F.RL t f x) (h2 : F.RL u g y) : DV t u (D.put (kl f g) (.lit (.int .i64 (F.pc x y : Int)))) := by
  intro f' g' x' y' h3 h4 hh
  by_cases e : kl f' g' = kl f g
  · obtain ⟨rfl, rfl⟩ := kl_inj ht hu h3 h4 h1 h2 e
    rw [Maps.atKey_put_same hD (by unfold kl; exact trivial), F.RL_uniq x _ h1 x' h3, F.RL_uniq y _ h2 y' h4]
  · rw [Maps.has_put_other e] at hh
    rw [Maps.atKey_put_other e]
    exact h f' g' x' y' h3 h4 hh
end Go.Proofs.Ytlppkilencpmeaa.Tr
