/-
  Plain laws: alarms of a story's gauge.
-/
import Derived.Test.YtmmfbjmjhjmccaaM4
namespace Go.Proofs.Ytmmfbjmjhjmccaa.Am
set_option linter.unusedSimpArgs false
set_option linter.unusedVariables false
open Go
attribute [local irreducible] made05 made24
/-- What a watch finds, where no second contradicts. -/
theorem watch_spec {rate : Int} {xs : List Fc} {limit : Int} : ∀ (n : Nat) (t s m : Int), 0 ≤ t → (∀ i : Int, t ≤ i → i < t + n → (lookS rate i xs).1 ≤ (lookS rate i xs).2.1) →
    ∃ s' m', watchS rate xs limit n t s m = some (s', m') ∧ (0 ≤ s → s' = s) ∧ (0 ≤ m → m' = m) ∧ (s < 0 → 0 ≤ s' → t ≤ s' ∧ s' < t + n ∧ limit < (lookS rate s' xs).1) ∧
      (m < 0 → ∀ i : Int, t ≤ i → i < t + n → limit < (lookS rate i xs).2.1 → 0 ≤ m' ∧ m' ≤ i)
  | 0, t, s, m, ht, h => ⟨s, m, rfl, fun _ => rfl, fun _ => rfl, fun h1 h2 => by omega, fun _ i h1 h2 => by omega⟩
  | n + 1, t, s, m, ht, h => by
    have h0 := h t (Int.le_refl _) (by omega)
    simp only [watchS]
    rw [if_neg (by omega)]
    obtain ⟨s', m', e, k1, k2, k3, k4⟩ := @watch_spec rate xs limit n (t + 1) (if limit < (lookS rate t xs).1 ∧ s < 0 then t else s) (if limit < (lookS rate t xs).2.1 ∧ m < 0 then t else m) (by omega) (fun i h1 h2 => h i (by omega) (by omega))
    refine ⟨s', m', e, fun hs => ?_, fun hm => ?_, fun hs hs' => ?_, fun hm i h1 h2 h3 => ?_⟩
    · rw [if_neg (by omega)] at k1
      exact k1 hs
    · rw [if_neg (by omega)] at k2
      exact k2 hm
    · by_cases c : limit < (lookS rate t xs).1
      · rw [if_pos ⟨c, hs⟩] at k1
        have := k1 ht
        subst this
        exact ⟨Int.le_refl _, by omega, c⟩
      · rw [if_neg (fun k => c k.1)] at k3
        have := k3 hs hs'
        omega
    · by_cases c : limit < (lookS rate t xs).2.1
      · rw [if_pos ⟨c, hm⟩] at k2
        have := k2 ht
        omega
      · rw [if_neg (fun k => c k.1)] at k4
        rcases (by omega : i = t ∨ t + 1 ≤ i) with rfl | hi
        · exact absurd h3 c
        · exact k4 hm i hi (by omega) h3

/-- Alarms of a story's gauge are sound. -/
theorem alarm_sound (x : Sty) {limit fr to : Int} (h1 : 0 ≤ fr ∧ fr < to ∧ to ≤ 10000 ∧ to - fr ≤ 2000) :
    ∃ s m, alarmS (made24 x) limit fr to = (s, m, 0) ∧ (0 ≤ s → fr ≤ s ∧ s < to ∧ limit < valueS x.rate x.first x.steps s.toNat) ∧ (∀ i : Int, fr ≤ i → i < to → limit < valueS x.rate x.first x.steps i.toNat → 0 ≤ m ∧ m ≤ i) := by
  have hv := made24_valid x
  have hs : ∀ i : Int, fr ≤ i → i < to → (lookS (made24 x).rate i (factsG (made24 x))).1 ≤ valueS x.rate x.first x.steps i.toNat ∧ valueS x.rate x.first x.steps i.toNat ≤ (lookS (made24 x).rate i (factsG (made24 x))).2.1 := fun i a b => (found_sound x (t := i) (by omega)).2
  obtain ⟨s, m, e, _, _, k3, k4⟩ := @watch_spec (made24 x).rate (factsG (made24 x)) limit (to - fr).toNat fr (-1) (-1) h1.1 (fun i a b => by have := hs i a (by omega); omega)
  refine ⟨s, m, ?_, fun h0 => ?_, fun i a b c => ?_⟩
  · unfold alarmS
    rw [if_neg (by unfold alarmBad; rw [hv]; simp; omega), e]
  · obtain ⟨a, b, c⟩ := k3 (by omega) h0
    have := hs s a (by omega)
    exact ⟨a, by omega, by omega⟩
  · have := hs i a b
    exact k4 (by omega) i a (by omega) (by omega)
end Go.Proofs.Ytmmfbjmjhjmccaa.Am
