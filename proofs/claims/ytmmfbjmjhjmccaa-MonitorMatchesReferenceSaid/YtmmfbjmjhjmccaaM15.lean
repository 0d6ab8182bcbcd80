/-
  Plain laws: the reference implementation names the same reasons.
-/
import Derived.Test.YtmmfbjmjhjmccaaM14
namespace Go.Proofs.Ytmmfbjmjhjmccaa.Am
set_option linter.unusedSimpArgs false
set_option linter.unusedVariables false
set_option maxHeartbeats 4000000
open Go
/-- The first fact that gives this bound. -/
def fU (rate t z : Int) : List Fc → Int
  | [] => -1
  | f :: xs => if f.2.1 - reachS rate f t = z then f.1 else fU rate t z xs
def fO (rate t z : Int) : List Fc → Int
  | [] => -1
  | f :: xs => if f.2.2.1 + reachS rate f t = z then f.1 else fO rate t z xs
theorem fold_fU {rate t : Int} : ∀ (xs : List Fc) (b : Bd), (∀ f ∈ xs, 0 ≤ f.1) →
    (0 ≤ b.2.2.1 → (xs.foldl (lookStep rate t) b).2.2.1 = if (xs.foldl (lookStep rate t) b).1 = b.1 then b.2.2.1 else fU rate t (xs.foldl (lookStep rate t) b).1 xs) ∧
    (b.2.2.1 = -1 → (xs.foldl (lookStep rate t) b).2.2.1 = fU rate t (xs.foldl (lookStep rate t) b).1 xs)
  | [], b, h => by simp [fU]
  | f :: xs, b, h => by
    rw [List.foldl_cons]
    have hf := h f (by simp)
    have ih := fold_fU (rate := rate) (t := t) xs (lookStep rate t b f) (fun g hg => h g (by simp [hg]))
    have hm := ((fold_low (rate := rate) (t := t) (z := (xs.foldl (lookStep rate t) (lookStep rate t b f)).1) xs (lookStep rate t b f)).1 (Int.le_refl _)).1
    have s1 := step_lo rate t b f
    have s2 : (lookStep rate t b f).2.2.1 = if f.2.1 - reachS rate f t > b.1 ∨ f.2.1 - reachS rate f t = b.1 ∧ b.2.2.1 < 0 then f.1 else b.2.2.1 := by
      unfold lookStep
      simp only
      split <;> split <;> (try dsimp only at *) <;> (try rw [if_pos (by omega)]) <;> (try rw [if_neg (by omega)])
    generalize xs.foldl (lookStep rate t) (lookStep rate t b f) = B at *
    rw [s1] at hm ih
    simp only [fU]
    generalize f.2.1 - reachS rate f t = v at *
    constructor
    · intro hu
      by_cases hv : v > b.1
      · rw [if_pos (.inl hv)] at s2
        have := ih.1 (by omega)
        rw [s2] at this
        rw [this, if_neg (show ¬ B.1 = b.1 by omega)]
        by_cases e : B.1 = max b.1 v
        · rw [if_pos e, if_pos (by omega)]
        · rw [if_neg e, if_neg (by omega)]
      · rw [if_neg (by omega)] at s2
        have := ih.1 (by omega)
        rw [s2] at this
        rw [this]
        by_cases e : B.1 = b.1
        · rw [if_pos (by omega), if_pos e]
        · rw [if_neg (by omega), if_neg e, if_neg (by omega)]
    · intro hu
      by_cases hv : v > b.1 ∨ v = b.1
      · rw [if_pos (by omega)] at s2
        have := ih.1 (by omega)
        rw [s2] at this
        rw [this]
        by_cases e : B.1 = max b.1 v
        · rw [if_pos e, if_pos (by omega)]
        · rw [if_neg e, if_neg (by omega)]
      · rw [if_neg (by omega)] at s2
        have := ih.2 (by omega)
        rw [this, if_neg (by omega)]
theorem fold_fO {rate t : Int} : ∀ (xs : List Fc) (b : Bd), (∀ f ∈ xs, 0 ≤ f.1) →
    (0 ≤ b.2.2.2 → (xs.foldl (lookStep rate t) b).2.2.2 = if (xs.foldl (lookStep rate t) b).2.1 = b.2.1 then b.2.2.2 else fO rate t (xs.foldl (lookStep rate t) b).2.1 xs) ∧
    (b.2.2.2 = -1 → (xs.foldl (lookStep rate t) b).2.2.2 = fO rate t (xs.foldl (lookStep rate t) b).2.1 xs)
  | [], b, h => by simp [fO]
  | f :: xs, b, h => by
    rw [List.foldl_cons]
    have hf := h f (by simp)
    have ih := fold_fO (rate := rate) (t := t) xs (lookStep rate t b f) (fun g hg => h g (by simp [hg]))
    have hm := ((fold_high (rate := rate) (t := t) (z := (xs.foldl (lookStep rate t) (lookStep rate t b f)).2.1) xs (lookStep rate t b f)).1 (Int.le_refl _)).1
    have s1 := step_hi rate t b f
    have s2 : (lookStep rate t b f).2.2.2 = if f.2.2.1 + reachS rate f t < b.2.1 ∨ f.2.2.1 + reachS rate f t = b.2.1 ∧ b.2.2.2 < 0 then f.1 else b.2.2.2 := by
      unfold lookStep
      simp only
      split <;> split <;> (try dsimp only at *) <;> (try rw [if_pos (by omega)]) <;> (try rw [if_neg (by omega)])
    generalize xs.foldl (lookStep rate t) (lookStep rate t b f) = B at *
    rw [s1] at hm ih
    simp only [fO]
    generalize f.2.2.1 + reachS rate f t = v at *
    constructor
    · intro hu
      by_cases hv : v < b.2.1
      · rw [if_pos (.inl hv)] at s2
        have := ih.1 (by omega)
        rw [s2] at this
        rw [this, if_neg (show ¬ B.2.1 = b.2.1 by omega)]
        by_cases e : B.2.1 = min b.2.1 v
        · rw [if_pos e, if_pos (by omega)]
        · rw [if_neg e, if_neg (by omega)]
      · rw [if_neg (by omega)] at s2
        have := ih.1 (by omega)
        rw [s2] at this
        rw [this]
        by_cases e : B.2.1 = b.2.1
        · rw [if_pos (by omega), if_pos e]
        · rw [if_neg (by omega), if_neg e, if_neg (by omega)]
    · intro hu
      by_cases hv : v < b.2.1 ∨ v = b.2.1
      · rw [if_pos (by omega)] at s2
        have := ih.1 (by omega)
        rw [s2] at this
        rw [this]
        by_cases e : B.2.1 = min b.2.1 v
        · rw [if_pos e, if_pos (by omega)]
        · rw [if_neg e, if_neg (by omega)]
      · rw [if_neg (by omega)] at s2
        have := ih.2 (by omega)
        rw [this, if_neg (by omega)]
theorem fU_snoc {rate t z : Int} {f : Fc} : ∀ (xs : List Fc), (∀ g ∈ xs, 0 ≤ g.1) → fU rate t z (xs ++ [f]) = if fU rate t z xs = -1 then (if f.2.1 - reachS rate f t = z then f.1 else -1) else fU rate t z xs
  | [], _ => by simp [fU]
  | g :: xs, h => by
    have hg := h g (by simp)
    simp only [List.cons_append, fU]
    split
    · rw [if_neg (by omega)]
    · exact fU_snoc xs fun q hq => h q (by simp [hq])
theorem fO_snoc {rate t z : Int} {f : Fc} : ∀ (xs : List Fc), (∀ g ∈ xs, 0 ≤ g.1) → fO rate t z (xs ++ [f]) = if fO rate t z xs = -1 then (if f.2.2.1 + reachS rate f t = z then f.1 else -1) else fO rate t z xs
  | [], _ => by simp [fO]
  | g :: xs, h => by
    have hg := h g (by simp)
    simp only [List.cons_append, fO]
    split
    · rw [if_neg (by omega)]
    · exact fO_snoc xs fun q hq => h q (by simp [hq])
theorem counted_snoc {d : Int} {R : List Rd3} {tol : Int} {a v : Int} : ∀ (S : List Sm) (i : Int), countedL d R tol i (S ++ [(a, v)]) = countedL d R tol i S ++ (if (atS d R a).2.2 = 0 then [(i + S.length, v - tol, v + tol, (atS d R a).1, (atS d R a).2.1)] else [])
  | [], i => by simp [countedL]
  | (b, w) :: S, i => by
    simp only [List.cons_append, countedL]
    rw [counted_snoc S (i + 1)]
    have e : i + 1 + (S.length : Int) = i + (((b, w) :: S).length : Int) := by simp; omega
    rw [e]
    split <;> simp
theorem counted_nn {d : Int} {R : List Rd3} {tol : Int} {S : List Sm} : ∀ f ∈ countedL d R tol 0 S, 0 ≤ f.1 := fun f hf => by
  obtain ⟨k, s, _, _, rfl⟩ := counted_idx f hf
  simp only
  omega

theorem rr_L1 (N : Nat) (hN : 40 < N) (g : Ga) (t low high : Int) (hv : validG g = true) (ht : 0 ≤ t ∧ t ≤ 10000000) : ∀ (k n : Nat) (u o : Int), k ≤ g.S.length → k < n →
    D_putlogref24_Reason_L1 N g.S g.d g.R g.tol g.rate t low high n u o ((k : Int) - 1) = some (if fU g.rate t low (countedL g.d g.R g.tol 0 (g.S.take k)) = -1 then u else fU g.rate t low (countedL g.d g.R g.tol 0 (g.S.take k)), if fO g.rate t high (countedL g.d g.R g.tol 0 (g.S.take k)) = -1 then o else fO g.rate t high (countedL g.d g.R g.tol 0 (g.S.take k)))
  | k, 0, u, o, hk, hn => by omega
  | 0, n + 1, u, o, hk, hn => by
    rw [D_putlogref24_Reason_L1]
    simp [countedL, fU, fO]
  | k + 1, n + 1, u, o, hk, hn => by
    rw [D_putlogref24_Reason_L1]
    obtain ⟨v1, v2, v3, v4, v5⟩ := validG_parts hv
    have ei : ((k + 1 : Nat) : Int) - 1 = (k : Int) := by omega
    rw [ei]
    have hc : k < g.S.length := by omega
    obtain ⟨⟨a, v⟩, hab⟩ : ∃ s, g.S[k] = s := ⟨_, rfl⟩
    have hn1 : nth g.S (k : Int) = some (a, v) := by rw [nth_nat, List.getElem?_eq_getElem hc, hab]
    have etk : g.S.take (k + 1) = g.S.take k ++ [(a, v)] := by rw [List.take_add_one, List.getElem?_eq_getElem hc, hab]; rfl
    have hbb := chain2_get v1 (a, v) (by rw [← hab]; exact List.getElem_mem _)
    simp only at hbb
    have e1 : decide (0 ≤ (k : Int)) = true := by simp
    have j : I64 ((k : Int) - 1) := by unfold I64; omega
    have ih := fun u o => rr_L1 N hN g t low high hv ht k n u o (by omega) (by omega)
    have elen : ((g.S.take k).length : Int) = (k : Int) := by simp; omega
    simp only [e1, cond_true, hn1, Option.bind_some, rspan N hN g a v t ⟨v3, v4⟩ (by omega) ht k, gd_of j]
    rw [etk, counted_snoc, elen]
    by_cases h0 : (atS g.d g.R a).2.2 = 0
    · rw [if_pos h0, if_pos h0, fU_snoc _ counted_nn, fO_snoc _ counted_nn, Int.zero_add]
      simp only [Bool.true_and, Bool.cond_eq_ite, decide_eq_true_eq]
      obtain ⟨X, hX⟩ : ∃ X, fU g.rate t low (countedL g.d g.R g.tol 0 (g.S.take k)) = X := ⟨_, rfl⟩
      obtain ⟨Y, hY⟩ : ∃ Y, fO g.rate t high (countedL g.d g.R g.tol 0 (g.S.take k)) = Y := ⟨_, rfl⟩
      rw [hX, hY] at ih
      rw [hX, hY]
      by_cases c1 : v - g.tol - reachS g.rate (↑k, v - g.tol, v + g.tol, (atS g.d g.R a).1, (atS g.d g.R a).2.1) t = low <;>
      by_cases c2 : v + g.tol + reachS g.rate (↑k, v - g.tol, v + g.tol, (atS g.d g.R a).1, (atS g.d g.R a).2.1) t = high <;>
      simp only [c1, c2, if_true, if_false] <;> rw [ih] <;> congr 2 <;> (split <;> (try rw [if_neg (by omega)]) <;> (try rw [if_pos (by omega)]) <;> (try simp_all))
    · rw [if_neg h0, if_neg h0, List.append_nil]
      simp only [Bool.false_and, cond_false]
      exact ih u o
theorem rReason (N : Nat) (hN : 40 < N) (g : Ga) (t : Int) : D_putlogref24_Reason N g.d g.R g.tol g.rate g.S t = some (reasonS g t) := by
  unfold D_putlogref24_Reason
  rw [rBounds N hN]
  simp only [Option.bind_some]
  by_cases h : validG g = true ∧ 0 ≤ t ∧ t ≤ 10000000
  · obtain ⟨v1, v2, v3, v4, v5⟩ := validG_parts h.1
    have hf : foundS g t = (lookS g.rate t (factsG g), decide ((lookS g.rate t (factsG g)).1 ≤ (lookS g.rate t (factsG g)).2.1)) := by unfold foundS; rw [if_pos ⟨h.1, h.2⟩]
    rw [bounds_va h.1 h.2]
    unfold reasonS
    rw [hf]
    by_cases hc : (lookS g.rate t (factsG g)).1 ≤ (lookS g.rate t (factsG g)).2.1
    · rw [if_pos hc]
      have j : I64 ((g.S.length : Int) - 1) := by unfold I64; omega
      have hL := rr_L1 N hN g t (lookS g.rate t (factsG g)).1 (lookS g.rate t (factsG g)).2.1 h.1 h.2 g.S.length N (-1) (-1) (Nat.le_refl _) (by omega)
      rw [List.take_length] at hL
      have a1 := (fold_fU (rate := g.rate) (t := t) (factsG g) (-1000000, 1000000, -1, -1) counted_nn).2 rfl
      have a2 := (fold_fO (rate := g.rate) (t := t) (factsG g) (-1000000, 1000000, -1, -1) counted_nn).2 rfl
      change (lookS g.rate t (factsG g)).2.2.1 = fU g.rate t (lookS g.rate t (factsG g)).1 (factsG g) at a1
      change (lookS g.rate t (factsG g)).2.2.2 = fO g.rate t (lookS g.rate t (factsG g)).2.1 (factsG g) at a2
      change _ = some (if fU g.rate t (lookS g.rate t (factsG g)).1 (factsG g) = -1 then -1 else fU g.rate t (lookS g.rate t (factsG g)).1 (factsG g), if fO g.rate t (lookS g.rate t (factsG g)).2.1 (factsG g) = -1 then -1 else fO g.rate t (lookS g.rate t (factsG g)).2.1 (factsG g)) at hL
      rw [← a1, ← a2] at hL
      simp only [ne_eq, not_true_eq_false, decide_false, cond_false, gd_of j, hL, Option.bind_some, decide_eq_true hc, if_true]
      congr 1
      congr 1
      · split <;> simp_all
      · congr 1
        split <;> simp_all
    · rw [if_neg hc, show decide ((lookS g.rate t (factsG g)).1 ≤ (lookS g.rate t (factsG g)).2.1) = false by simpa using hc]
      rfl
  · have hb : boundsS g t = (0, 0, 240) := by
      unfold boundsS
      rw [found_no h]
      rfl
    rw [hb]
    unfold reasonS
    rw [found_no h]
    rfl
end Go.Proofs.Ytmmfbjmjhjmccaa.Am
