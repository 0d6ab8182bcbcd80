/-
  Plain laws: a story's gauge is valid and faithful (end).
-/
import Derived.Test.YtmmfbjmjhjmccaaM2
namespace Go.Proofs.Ytmmfbjmjhjmccaa.Am
set_option linter.unusedSimpArgs false
set_option linter.unusedVariables false
open Go
theorem made24_d (x : Sty) : (made24 x).d = pickS x.drift 101 := by simp only [made24]
theorem made24_R (x : Sty) : (made24 x).R = made05 x.drift x.start x.rates (atOf x) := by simp only [made24]
theorem made24_tol (x : Sty) : (made24 x).tol = pickS x.tol 31 := by simp only [made24]
theorem made24_rate (x : Sty) : (made24 x).rate = pickS x.rate 21 := by simp only [made24]
attribute [local irreducible] made05 made24
/-! ### The quantity -/
theorem value_step (rate first : Int) (steps : List Int) (t : Nat) : -(pickS rate 21) ≤ valueS rate first steps (t + 1) - valueS rate first steps t ∧ valueS rate first steps (t + 1) - valueS rate first steps t ≤ pickS rate 21 := by
  have hr := @pick_bd rate 21 (by omega)
  unfold valueS
  by_cases h : steps.length = 0
  · rw [if_pos h, if_pos h]; omega
  · rw [if_neg h, if_neg h, fold_range_succ]
    generalize (List.range t).foldl (valStep rate steps) (pickS first 2001 - 1000) = v
    have h2 := @pick_bd (steps.getD (t % steps.length) 0) (2 * pickS rate 21 + 1) (by omega)
    unfold valStep
    omega
theorem value_lip0 (rate first : Int) (steps : List Int) (t : Nat) : ∀ x : Nat, -(pickS rate 21 * x) ≤ valueS rate first steps (t + x) - valueS rate first steps t ∧ valueS rate first steps (t + x) - valueS rate first steps t ≤ pickS rate 21 * x
  | 0 => by simp
  | x + 1 => by
    have ih := value_lip0 rate first steps t x
    have hs := value_step rate first steps (t + x)
    have e : pickS rate 21 * ((x + 1 : Nat) : Int) = pickS rate 21 * x + pickS rate 21 := by rw [Int.natCast_add, Int.mul_add]; simp
    rw [e, ← Nat.add_assoc]
    omega
/-- It changes by no more than its rate. -/
theorem value_lip (rate first : Int) (steps : List Int) {s t m : Int} (hs : 0 ≤ s) (ht : 0 ≤ t) (h1 : t - s ≤ m) (h2 : s - t ≤ m) : valueS rate first steps t.toNat - pickS rate 21 * m ≤ valueS rate first steps s.toNat ∧ valueS rate first steps s.toNat ≤ valueS rate first steps t.toNat + pickS rate 21 * m := by
  have hr := @pick_bd rate 21 (by omega)
  rcases Int.le_total s t with h | h
  · have := value_lip0 rate first steps s.toNat (t - s).toNat
    rw [show s.toNat + (t - s).toNat = t.toNat by omega, show (((t - s).toNat : Nat) : Int) = t - s by omega] at this
    have hm : pickS rate 21 * (t - s) ≤ pickS rate 21 * m := Int.mul_le_mul_of_nonneg_left h1 hr.1
    omega
  · have := value_lip0 rate first steps t.toNat (s - t).toNat
    rw [show t.toNat + (s - t).toNat = s.toNat by omega, show (((s - t).toNat : Nat) : Int) = s - t by omega] at this
    have hm : pickS rate 21 * (s - t) ≤ pickS rate 21 * m := Int.mul_le_mul_of_nonneg_left h2 hr.1
    omega

/-! ### The samples of a story -/
theorem chain2_snoc : ∀ {R : List Sm} {l : Int} {r : Sm}, chain2 l R = true → (R.length = 0 → l < r.1) → (R.length ≠ 0 → (lastS R).1 < r.1) → r.1 ≤ 10000000 → -1000000 ≤ r.2 → r.2 ≤ 1000000 → chain2 l (R ++ [r]) = true
  | [], l, (a, b), _, h1, _, h3, h4, h5 => by
    have := h1 rfl
    simp [chain2] at this h3 h4 h5 ⊢
    omega
  | (a, b) :: R, l, r, h, _, h2, h3, h4, h5 => by
    simp only [chain2, Bool.and_eq_true, decide_eq_true_eq, List.cons_append] at h ⊢
    refine ⟨h.1, chain2_snoc h.2 (fun h0 => ?_) (fun h0 => ?_) h3 h4 h5⟩
    · have : R = [] := List.eq_nil_of_length_eq_zero h0
      subst this
      have := h2 (by simp)
      simpa [lastS] using this
    · have := h2 (by simp)
      unfold lastS at this ⊢
      obtain ⟨k, hk⟩ : ∃ k, R.length = k + 1 := ⟨R.length - 1, by omega⟩
      simpa [hk] using this

/-- A sample that is faithful. -/
def Fai (sh : Int → Int) (V : Nat → Int) (tol : Int) (s : Sm) : Prop := ∃ u : Int, 0 ≤ u ∧ u ≤ 1000 ∧ s.1 = sh u ∧ V u.toNat - tol ≤ s.2 ∧ s.2 ≤ V u.toNat + tol
def GoodS (sh : Int → Int) (V : Nat → Int) (tol : Int) (S : List Sm) : Prop := chain2 (-1) S = true ∧ ∀ s ∈ S, Fai sh V tol s
theorem samples_good (x : Sty) : ∀ i : Nat, i ≤ 12 → i ≤ x.sm.length → 0 ≤ ((x.sm.take i).foldl (stepS x) (0, [])).1 ∧ ((x.sm.take i).foldl (stepS x) (0, [])).1 ≤ 31 * (i : Int) ∧ ((x.sm.take i).foldl (stepS x) (0, [])).2.length ≤ i ∧
    GoodS (shownS x.drift x.start x.rates) (valueS x.rate x.first x.steps) (pickS x.tol 31) ((x.sm.take i).foldl (stepS x) (0, [])).2
  | 0, _, _ => ⟨by simp, by simp, by simp, rfl, by simp⟩
  | i + 1, h1, h2 => by
    obtain ⟨g1, g2, g3, g4⟩ := samples_good x i (by omega) (by omega)
    have hget : x.sm[i]? = some x.sm[i] := List.getElem?_eq_getElem (by omega)
    rw [foldl_take_succ _ _ _ _ _ hget]
    generalize (x.sm.take i).foldl (stepS x) (0, []) = q at *
    generalize x.sm[i] = p
    obtain ⟨t, S⟩ := q
    simp only at g1 g2 g3 g4
    have hp1 := @pick_bd p.1 31 (by omega)
    have htol := @pick_bd x.tol 31 (by omega)
    have hp2 := @pick_bd p.2 (2 * pickS x.tol 31 + 1) (by omega)
    simp only [stepS]
    have hvb := valueS_bd x.rate x.first x.steps (t + pickS p.1 31).toNat
    have hps := @pick_bd x.start 1000 (by omega)
    have hd := @pick_bd x.drift 101 (by omega)
    have hsh := @shownS_eq x.drift x.start x.rates (t + pickS p.1 31) (by omega)
    have hF := bigF_nonneg (d := pickS x.drift 101) (by omega) x.rates (t := t + pickS p.1 31) (by omega)
    refine ⟨by omega, by omega, ?_, ?_⟩
    · split
      · simp; omega
      · omega
    · split
      · rename_i hc
        refine ⟨chain2_snoc g4.1 (fun _ => by dsimp only; omega) (fun h0 => hc.resolve_left h0) (by dsimp only; omega) (by dsimp only; omega) (by dsimp only; omega), fun s hs => ?_⟩
        rcases List.mem_append.1 hs with hs | hs
        · exact g4.2 s hs
        · simp at hs
          subst hs
          exact ⟨t + pickS p.1 31, by omega, by omega, rfl, by dsimp only; omega, by dsimp only; omega⟩
      · exact g4

theorem made24_S (x : Sty) : (made24 x).S.length ≤ 12 ∧ GoodS (shownS x.drift x.start x.rates) (valueS x.rate x.first x.steps) (pickS x.tol 31) (made24 x).S := by
  have e : x.sm.take 12 = x.sm.take (min 12 x.sm.length) := by
    rcases Nat.le_total 12 x.sm.length with h | h
    · rw [Nat.min_eq_left h]
    · rw [Nat.min_eq_right h, List.take_of_length_le h, List.take_of_length_le (Nat.le_refl _)]
  have := samples_good x (min 12 x.sm.length) (by omega) (by omega)
  have hS : (made24 x).S = ((x.sm.take 12).foldl (stepS x) (0, [])).2 := by simp only [made24]
  rw [hS, e]
  exact ⟨by omega, this.2.2.2⟩

theorem made24_valid (x : Sty) : validG (made24 x) = true := by
  obtain ⟨h1, h2⟩ := made24_S x
  have htol := @pick_bd x.tol 31 (by omega)
  have hr := @pick_bd x.rate 21 (by omega)
  simp only [validG, Bool.and_eq_true, decide_eq_true_eq, made24_d, made24_R, made24_tol, made24_rate]
  exact ⟨h2.1, ⟨⟨made05_valid _ _ _ _, by omega, by omega⟩, by omega, by omega⟩, by omega⟩

/-! ### Soundness -/
theorem counted_in {d : Int} {R : List Rd3} {tol : Int} {P : Fc → Prop} : ∀ {S : List Sm} {i : Int} (_ : ∀ s ∈ S, ∀ j : Int, (atS d R s.1).2.2 = 0 → P (j, s.2 - tol, s.2 + tol, (atS d R s.1).1, (atS d R s.1).2.1)) (f : Fc), f ∈ countedL d R tol i S → P f
  | [], i, _, f, hf => by simp [countedL] at hf
  | (a, v) :: S, i, h, f, hf => by
    simp only [countedL] at hf
    have ih := @counted_in d R tol P S (i + 1) (fun s hs => h s (by simp [hs]))
    split at hf
    · rename_i h0
      rcases List.mem_cons.1 hf with rfl | hf
      · exact h (a, v) (by simp) i h0
      · exact ih f hf
    · exact ih f hf

/-- What a fact says is so. -/
def Tru (rate t v : Int) (f : Fc) : Prop := f.2.1 - reachS rate f t ≤ v ∧ v ≤ f.2.2.1 + reachS rate f t
theorem facts_true (x : Sty) {t : Int} (ht : 0 ≤ t ∧ t ≤ 100000) : ∀ f ∈ factsG (made24 x), Tru (made24 x).rate t (valueS x.rate x.first x.steps t.toNat) f := by
  obtain ⟨_, h2⟩ := made24_S x
  have hC := course_of x.drift x.start x.rates
  have hA := (made05_good x.drift x.start x.rates (atOf x)).2
  have hv := made05_valid x.drift x.start x.rates (atOf x)
  unfold factsG
  rw [made24_d, made24_R, made24_tol, made24_rate]
  generalize made05 x.drift x.start x.rates (atOf x) = R at *
  refine counted_in fun s hs j h0 => ?_
  obtain ⟨u, hu1, hu2, hu3, hu4, hu5⟩ := h2.2 s hs
  have hps := @pick_bd x.start 1000 (by omega)
  have hd := @pick_bd x.drift 101 (by omega)
  have hsh := @shownS_eq x.drift x.start x.rates u hu1
  have hF := bigF_nonneg (d := pickS x.drift 101) (by omega) x.rates hu1
  have hat := at_in hC hv hA (u := u) ⟨hu1, by omega⟩ ⟨by omega, by omega⟩
  rw [← hu3] at hat
  obtain ⟨A, hAe⟩ : ∃ A, atS (pickS x.drift 101) R s.1 = A := ⟨_, rfl⟩
  rw [hAe] at hat ⊢
  have := value_lip x.rate x.first x.steps (s := u) (t := t) (m := max (max (max (t - A.1) (A.2.1 - t)) (A.1 - t)) (t - A.2.1)) hu1 ht.1 (by omega) (by omega)
  show s.2 - pickS x.tol 31 - pickS x.rate 21 * max (max (max (t - A.1) (A.2.1 - t)) (A.1 - t)) (t - A.2.1) ≤ _ ∧ _ ≤ s.2 + pickS x.tol 31 + pickS x.rate 21 * max (max (max (t - A.1) (A.2.1 - t)) (A.1 - t)) (t - A.2.1)
  omega

theorem look_in {rate t v : Int} : ∀ (xs : List Fc) (b : Bd), (∀ f ∈ xs, Tru rate t v f) → b.1 ≤ v → v ≤ b.2.1 → (xs.foldl (lookStep rate t) b).1 ≤ v ∧ v ≤ (xs.foldl (lookStep rate t) b).2.1
  | [], b, _, h1, h2 => ⟨h1, h2⟩
  | f :: xs, b, h, h1, h2 => by
    rw [List.foldl_cons]
    have hf := h f (by simp)
    have : (lookStep rate t b f).1 ≤ v ∧ v ≤ (lookStep rate t b f).2.1 := by
      unfold Tru at hf
      unfold lookStep
      simp only
      split <;> split <;> (try dsimp only) <;> omega
    exact look_in xs _ (fun f hf => h f (by simp [hf])) this.1 this.2

/-- The bounds of a story's gauge hold its quantity. -/
theorem found_sound (x : Sty) {t : Int} (ht : 0 ≤ t ∧ t ≤ 10000) : foundS (made24 x) t = (lookS (made24 x).rate t (factsG (made24 x)), true) ∧ (lookS (made24 x).rate t (factsG (made24 x))).1 ≤ valueS x.rate x.first x.steps t.toNat ∧ valueS x.rate x.first x.steps t.toNat ≤ (lookS (made24 x).rate t (factsG (made24 x))).2.1 := by
  have hvb := valueS_bd x.rate x.first x.steps t.toNat
  have h := look_in (factsG (made24 x)) (-1000000, 1000000, -1, -1) (facts_true x (t := t) (by omega)) (by dsimp only; omega) (by dsimp only; omega)
  change (lookS (made24 x).rate t (factsG (made24 x))).1 ≤ _ ∧ _ ≤ (lookS (made24 x).rate t (factsG (made24 x))).2.1 at h
  refine ⟨?_, h⟩
  unfold foundS
  rw [if_pos ⟨made24_valid x, by omega⟩]
  have : (lookS (made24 x).rate t (factsG (made24 x))).1 ≤ (lookS (made24 x).rate t (factsG (made24 x))).2.1 := by omega
  simp [this]
end Go.Proofs.Ytmmfbjmjhjmccaa.Am
