/-
  Plain laws: what bounds are; fewer samples, greater tolerances and rates.
-/
import Derived.Test.YtmmfbjmjhjmccaaM3
namespace Go.Proofs.Ytmmfbjmjhjmccaa.Am
set_option linter.unusedSimpArgs false
set_option linter.unusedVariables false
open Go
attribute [local irreducible] made05 made24
/-! ### Bounds as a greatest and a least number -/
theorem fold_low {rate t z : Int} : ∀ (xs : List Fc) (b : Bd), (xs.foldl (lookStep rate t) b).1 ≤ z ↔ b.1 ≤ z ∧ ∀ f ∈ xs, f.2.1 - reachS rate f t ≤ z
  | [], b => by simp
  | f :: xs, b => by
    rw [List.foldl_cons, fold_low xs]
    have : (lookStep rate t b f).1 ≤ z ↔ b.1 ≤ z ∧ f.2.1 - reachS rate f t ≤ z := by
      unfold lookStep
      simp only
      split <;> split <;> (try dsimp only at *) <;> omega
    rw [this]
    simp only [List.mem_cons, forall_eq_or_imp, and_assoc]
theorem fold_high {rate t z : Int} : ∀ (xs : List Fc) (b : Bd), z ≤ (xs.foldl (lookStep rate t) b).2.1 ↔ z ≤ b.2.1 ∧ ∀ f ∈ xs, z ≤ f.2.2.1 + reachS rate f t
  | [], b => by simp
  | f :: xs, b => by
    rw [List.foldl_cons, fold_high xs]
    have : z ≤ (lookStep rate t b f).2.1 ↔ z ≤ b.2.1 ∧ z ≤ f.2.2.1 + reachS rate f t := by
      unfold lookStep
      simp only
      split <;> split <;> (try dsimp only at *) <;> omega
    rw [this]
    simp only [List.mem_cons, forall_eq_or_imp, and_assoc]
theorem look_low {rate t z : Int} {xs : List Fc} : (lookS rate t xs).1 ≤ z ↔ -1000000 ≤ z ∧ ∀ f ∈ xs, f.2.1 - reachS rate f t ≤ z := fold_low xs _
theorem look_high {rate t z : Int} {xs : List Fc} : z ≤ (lookS rate t xs).2.1 ↔ z ≤ 1000000 ∧ ∀ f ∈ xs, z ≤ f.2.2.1 + reachS rate f t := fold_high xs _

/-- A sample whose second is known is a fact. -/
theorem counted_mem {d : Int} {R : List Rd3} {tol : Int} : ∀ {S : List Sm} {i : Int} {s : Sm}, s ∈ S → (atS d R s.1).2.2 = 0 → ∃ j, (j, s.2 - tol, s.2 + tol, (atS d R s.1).1, (atS d R s.1).2.1) ∈ countedL d R tol i S
  | (a, v) :: S, i, s, hs, h0 => by
    simp only [countedL]
    rcases List.mem_cons.1 hs with rfl | hs
    · rw [if_pos h0]
      exact ⟨i, by simp⟩
    · obtain ⟨j, hj⟩ := @counted_mem d R tol S (i + 1) s hs h0
      refine ⟨j, ?_⟩
      split
      · exact List.mem_cons_of_mem _ hj
      · exact hj

theorem chain2_pair : ∀ {S : List Sm} {l : Int}, chain2 l S = true ↔ (S.Pairwise fun a b => a.1 < b.1) ∧ ∀ s ∈ S, l < s.1 ∧ s.1 ≤ 10000000 ∧ -1000000 ≤ s.2 ∧ s.2 ≤ 1000000
  | [], l => by simp [chain2]
  | (a, v) :: S, l => by
    simp only [chain2, Bool.and_eq_true, decide_eq_true_eq, List.pairwise_cons, List.mem_cons, forall_eq_or_imp]
    rw [chain2_pair]
    constructor
    · rintro ⟨h1, h2, h3⟩
      refine ⟨⟨fun s hs => (h3 s hs).1, h2⟩, by omega, fun s hs => ?_⟩
      have := h3 s hs
      omega
    · rintro ⟨⟨h1, h2⟩, h3, h4⟩
      refine ⟨by omega, h2, fun s hs => ?_⟩
      have := h4 s hs
      exact ⟨h1 s hs, this.2⟩
theorem chain2_sub {S S' : List Sm} {l : Int} (h : S'.Sublist S) (hc : chain2 l S = true) : chain2 l S' = true := by
  rw [chain2_pair] at hc ⊢
  exact ⟨hc.1.sublist h, fun s hs => hc.2 s (h.subset hs)⟩

theorem reach_mono {rate rate' t : Int} {f f' : Fc} (hf : f.2.2.2 = f'.2.2.2) (hF : f.2.2.2.1 ≤ f.2.2.2.2) (h : rate ≤ rate') : reachS rate f t ≤ reachS rate' f' t := by
  unfold reachS
  rw [← hf]
  exact Int.mul_le_mul_of_nonneg_right h (by omega)

/-- Fewer samples, a greater tolerance, a greater rate: bounds are not narrower. -/
theorem narrows {d : Int} {R : List Rd3} {tol tol' rate rate' : Int} {S S' : List Sm} {t : Int} (hS : ∀ s ∈ S', s ∈ S) (ht : tol ≤ tol') (hr : rate ≤ rate') :
    (lookS rate' t (countedL d R tol' 0 S')).1 ≤ (lookS rate t (countedL d R tol 0 S)).1 ∧ (lookS rate t (countedL d R tol 0 S)).2.1 ≤ (lookS rate' t (countedL d R tol' 0 S')).2.1 := by
  have hl := (look_low (rate := rate) (t := t) (xs := countedL d R tol 0 S) (z := (lookS rate t (countedL d R tol 0 S)).1)).1 (Int.le_refl _)
  have hh := (look_high (rate := rate) (t := t) (xs := countedL d R tol 0 S) (z := (lookS rate t (countedL d R tol 0 S)).2.1)).1 (Int.le_refl _)
  rw [look_low, look_high]
  refine ⟨⟨hl.1, ?_⟩, hh.1, ?_⟩
  · refine counted_in fun s hs j h0 => ?_
    obtain ⟨j', hj⟩ := @counted_mem d R tol S 0 s (hS s hs) h0
    have h1 := hl.2 _ hj
    have hb := atS_bd h0
    have := @reach_mono rate rate' t (j', s.2 - tol, s.2 + tol, (atS d R s.1).1, (atS d R s.1).2.1) (j, s.2 - tol', s.2 + tol', (atS d R s.1).1, (atS d R s.1).2.1) rfl hb.2.1 hr
    simp only at h1 ⊢
    omega
  · refine counted_in fun s hs j h0 => ?_
    obtain ⟨j', hj⟩ := @counted_mem d R tol S 0 s (hS s hs) h0
    have h1 := hh.2 _ hj
    have hb := atS_bd h0
    have := @reach_mono rate rate' t (j', s.2 - tol, s.2 + tol, (atS d R s.1).1, (atS d R s.1).2.1) (j, s.2 - tol', s.2 + tol', (atS d R s.1).1, (atS d R s.1).2.1) rfl hb.2.1 hr
    simp only at h1 ⊢
    omega
end Go.Proofs.Ytmmfbjmjhjmccaa.Am
