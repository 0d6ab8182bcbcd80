/-
  Plain laws: the reference implementation computes the same (bounds, reasons, alarms).
-/
import Derived.Test.YtmmfbjmjhjmccaaM13
namespace Go.Proofs.Ytmmfbjmjhjmccaa.Am
set_option linter.unusedSimpArgs false
set_option linter.unusedVariables false
set_option maxHeartbeats 4000000
open Go
attribute [local irreducible] atS validC
theorem rspan (N : Nat) (hN : 40 < N) (g : Ga) (a v t : Int) (hg : (0 ≤ g.tol ∧ g.tol ≤ 1000) ∧ (0 ≤ g.rate ∧ g.rate ≤ 1000)) (hv : -1000000 ≤ v ∧ v ≤ 1000000) (ht : 0 ≤ t ∧ t ≤ 10000000) (i : Int) :
    D_putlogref24_span N g.d g.R g.tol g.rate g.S a v t = some (if (atS g.d g.R a).2.2 = 0 then ((v - g.tol) - reachS g.rate (i, v - g.tol, v + g.tol, (atS g.d g.R a).1, (atS g.d g.R a).2.1) t, (v + g.tol) + reachS g.rate (i, v - g.tol, v + g.tol, (atS g.d g.R a).1, (atS g.d g.R a).2.1) t, true) else (0, 0, false)) := by
  unfold D_putlogref24_span
  rw [rat05 N (by omega)]
  simp only [Option.bind_some]
  by_cases h0 : (atS g.d g.R a).2.2 = 0
  · have hb := atS_bd h0
    obtain ⟨⟨f, l, e⟩, hA⟩ : ∃ A, atS g.d g.R a = A := ⟨_, rfl⟩
    rw [hA] at hb h0 ⊢
    simp only at hb h0 ⊢
    have e1 : decide (e ≠ 0) = false := by simp [h0]
    have em : max (max (max (t - f) (f - t)) (t - l)) (l - t) = max (max (max (t - f) (l - t)) (f - t)) (t - l) := by omega
    have hr : reachS g.rate (i, v - g.tol, v + g.tol, f, l) t = g.rate * max (max (max (t - f) (l - t)) (f - t)) (t - l) := rfl
    have hrb := @reach_bd g.rate t (i, v - g.tol, v + g.tol, f, l) (by unfold FB; simp only; omega) hg.2 ht
    rw [hr] at hrb
    rw [if_pos h0, hr, e1, cond_false]
    simp only [em]
    generalize g.rate * max (max (max (t - f) (l - t)) (f - t)) (t - l) = far at *
    have j1 : I64 (t - f) := by unfold I64; omega
    have j2 : I64 (f - t) := by unfold I64; omega
    have j3 : I64 (t - l) := by unfold I64; omega
    have j4 : I64 (l - t) := by unfold I64; omega
    have j5 : I64 far := by unfold I64; omega
    have j6 : I64 (v - g.tol) := by unfold I64; omega
    have j7 : I64 (v - g.tol - far) := by unfold I64; omega
    have j8 : I64 (v + g.tol) := by unfold I64; omega
    have j9 : I64 (v + g.tol + far) := by unfold I64; omega
    simp only [gd_of j1, gd_of j2, gd_of j3, gd_of j4, gd_of j5, gd_of j6, gd_of j7, gd_of j8, gd_of j9]
  · have e1 : decide ((atS g.d g.R a).2.2 ≠ 0) = true := by simp [h0]
    rw [e1, cond_true, if_neg h0]

theorem step_lo (rate t : Int) (b : Bd) (f : Fc) : (lookStep rate t b f).1 = max b.1 (f.2.1 - reachS rate f t) := by
  unfold lookStep
  simp only
  split <;> split <;> (try dsimp only at *) <;> omega
theorem step_hi (rate t : Int) (b : Bd) (f : Fc) : (lookStep rate t b f).2.1 = min b.2.1 (f.2.2.1 + reachS rate f t) := by
  unfold lookStep
  simp only
  split <;> split <;> (try dsimp only at *) <;> omega

theorem rb24_L1 (N : Nat) (hN : 40 < N) (g : Ga) (t : Int) (hv : validG g = true) (ht : 0 ≤ t ∧ t ≤ 10000000) : ∀ (n k : Nat) (b : Bd), k ≤ g.S.length → g.S.length < n + k →
    D_putlogref24_bounds_L1 N g.S g.d g.R g.tol g.rate t n b.1 b.2.1 k = some (((countedL g.d g.R g.tol k (g.S.drop k)).foldl (lookStep g.rate t) b).1, ((countedL g.d g.R g.tol k (g.S.drop k)).foldl (lookStep g.rate t) b).2.1)
  | 0, k, b, hk, hn => by omega
  | n + 1, k, b, hk, hn => by
    rw [D_putlogref24_bounds_L1]
    obtain ⟨v1, v2, v3, v4, v5⟩ := validG_parts hv
    by_cases hc : k < g.S.length
    · have e1 : decide ((k : Int) < (g.S.length : Int)) = true := by simp; omega
      obtain ⟨⟨a, v⟩, hab⟩ : ∃ s, g.S[k] = s := ⟨_, rfl⟩
      have hn1 : nth g.S (k : Int) = some (a, v) := by rw [nth_nat, List.getElem?_eq_getElem hc, hab]
      have edk : g.S.drop k = (a, v) :: g.S.drop (k + 1) := by rw [List.drop_eq_getElem_cons hc, hab]
      have hbb := chain2_get v1 (a, v) (by rw [← hab]; exact List.getElem_mem _)
      simp only at hbb
      have j3 : I64 ((k : Int) + 1) := by unfold I64; omega
      have ih := fun b => rb24_L1 N hN g t hv ht n (k + 1) b (by omega) (by omega)
      have ec : ((k + 1 : Nat) : Int) = (k : Int) + 1 := by omega
      rw [ec] at ih
      simp only [e1, cond_true, hn1, Option.bind_some, rspan N hN g a v t ⟨v3, v4⟩ (by omega) ht k, gd_of j3]
      rw [edk]
      simp only [countedL]
      by_cases h0 : (atS g.d g.R a).2.2 = 0
      · rw [if_pos h0, if_pos h0, List.foldl_cons]
        simp only [cond_true]
        have := ih (lookStep g.rate t b (k, v - g.tol, v + g.tol, (atS g.d g.R a).1, (atS g.d g.R a).2.1))
        rw [step_lo, step_hi] at this
        exact this
      · rw [if_neg h0, if_neg h0]
        simp only [cond_false]
        exact ih b
    · have e1 : decide ((k : Int) < (g.S.length : Int)) = false := by simp; omega
      rw [e1, cond_false, List.drop_eq_nil_of_le (by omega)]
      rfl
theorem rb24 (N : Nat) (hN : 40 < N) (g : Ga) (t : Int) (hv : validG g = true) (ht : 0 ≤ t ∧ t ≤ 10000000) : D_putlogref24_bounds N g.d g.R g.tol g.rate g.S t = some ((lookS g.rate t (factsG g)).1, (lookS g.rate t (factsG g)).2.1) := by
  unfold D_putlogref24_bounds
  obtain ⟨v1, v2, v3, v4, v5⟩ := validG_parts hv
  have hL := rb24_L1 N hN g t hv ht N 0 (-1000000, 1000000, -1, -1) (by omega) (by omega)
  have e0 : ((0 : Nat) : Int) = 0 := rfl
  rw [e0, List.drop_zero] at hL
  simp only at hL
  rw [hL]
  rfl
theorem bounds_va {g : Ga} (h : validG g = true) {t : Int} (ht : 0 ≤ t ∧ t ≤ 10000000) : boundsS g t = if (lookS g.rate t (factsG g)).1 ≤ (lookS g.rate t (factsG g)).2.1 then ((lookS g.rate t (factsG g)).1, (lookS g.rate t (factsG g)).2.1, 0) else (0, 0, 240) := by
  have hf : foundS g t = (lookS g.rate t (factsG g), decide ((lookS g.rate t (factsG g)).1 ≤ (lookS g.rate t (factsG g)).2.1)) := by unfold foundS; rw [if_pos ⟨h, ht⟩]
  unfold boundsS
  rw [hf]
  simp only [decide_eq_true_eq]
theorem found_no {g : Ga} {t : Int} (h : ¬ (validG g = true ∧ 0 ≤ t ∧ t ≤ 10000000)) : foundS g t = ((0, 0, 0, 0), false) := by unfold foundS; rw [if_neg h]
theorem rBounds (N : Nat) (hN : 40 < N) (g : Ga) (t : Int) : D_putlogref24_Bounds N g.d g.R g.tol g.rate g.S t = some (boundsS g t) := by
  unfold D_putlogref24_Bounds
  rw [rvalid24 N hN]
  simp only [Option.bind_some]
  by_cases h : validG g = true ∧ 0 ≤ t ∧ t ≤ 10000000
  · have e1 : ((!(validG g) || decide (t < 0)) || decide (10000000 < t)) = false := by rw [h.1]; simp; omega
    rw [e1, cond_false, rb24 N hN g t h.1 h.2, bounds_va h.1 h.2]
    simp only [Option.bind_some]
    by_cases hc : (lookS g.rate t (factsG g)).2.1 < (lookS g.rate t (factsG g)).1
    · rw [if_neg (by omega), show decide ((lookS g.rate t (factsG g)).2.1 < (lookS g.rate t (factsG g)).1) = true by simpa using hc]; rfl
    · rw [if_pos (by omega), show decide ((lookS g.rate t (factsG g)).2.1 < (lookS g.rate t (factsG g)).1) = false by simpa using hc]; rfl
  · have e1 : ((!(validG g) || decide (t < 0)) || decide (10000000 < t)) = true := by
      cases hv : validG g with
      | true => simp only [hv, true_and] at h; simp; omega
      | false => simp
    rw [e1, cond_true]
    unfold boundsS
    rw [found_no h]
    rfl
theorem rBoth (N : Nat) (hN : 40 < N) (g k : Ga) (t : Int) : D_putlogref24_Both N g.d g.R g.tol g.rate g.S k.d k.R k.tol k.rate k.S t = some (bothS g k t) := by
  unfold D_putlogref24_Both
  rw [rBounds N hN, rBounds N hN]
  simp only [Option.bind_some]
  unfold boundsS bothS
  cases hg : (foundS g t).2 with
  | false =>
    simp only [Bool.false_eq_true, if_false, false_and]
    rfl
  | true =>
    cases hk : (foundS k t).2 with
    | false =>
      simp only [Bool.false_eq_true, if_false, if_true, false_and, and_false]
      rfl
    | true =>
      simp only [if_true, ne_eq, not_true_eq_false, decide_false, Bool.false_or, true_and]
      by_cases hc : min (foundS g t).1.2.1 (foundS k t).1.2.1 < max (foundS g t).1.1 (foundS k t).1.1
      · rw [show decide (min (foundS g t).1.2.1 (foundS k t).1.2.1 < max (foundS g t).1.1 (foundS k t).1.1) = true by simpa using hc, cond_true, if_neg (by omega)]
      · rw [show decide (min (foundS g t).1.2.1 (foundS k t).1.2.1 < max (foundS g t).1.1 (foundS k t).1.1) = false by simpa using hc, cond_false, if_pos (by omega)]

/-! ### Alarms -/
theorem ral_L1 (N : Nat) (hN : 40 < N) (g : Ga) (limit to : Int) (hv : validG g = true) (hto : to ≤ 10000001) : ∀ (n : Nat) (t s m : Int), 0 ≤ t → t ≤ to → to - t < n →
    D_putlogref24_Alarm_L1 N to g.d g.R g.tol g.rate g.S limit n s m t = some (match watchS g.rate (factsG g) limit (to - t).toNat t s m with | none => .inr (0, 0, 240) | some (a, b) => .inl (a, b))
  | 0, t, s, m, h0, h1, h2 => by omega
  | n + 1, t, s, m, h0, h1, h2 => by
    rw [D_putlogref24_Alarm_L1]
    by_cases hc : t < to
    · have e1 : decide (t < to) = true := by simpa using hc
      have ew : (to - t).toNat = (to - (t + 1)).toNat + 1 := by omega
      have j : I64 (t + 1) := by unfold I64; omega
      have ih := fun s m => ral_L1 N hN g limit to hv hto n (t + 1) s m (by omega) (by omega) (by omega)
      rw [ew]
      simp only [watchS]
      simp only [e1, cond_true, rb24 N hN g t hv (by omega), Option.bind_some, gd_of j]
      by_cases hx : (lookS g.rate t (factsG g)).2.1 < (lookS g.rate t (factsG g)).1
      · rw [if_pos hx, show decide ((lookS g.rate t (factsG g)).2.1 < (lookS g.rate t (factsG g)).1) = true by simpa using hx, cond_true]
      · rw [if_neg hx, show decide ((lookS g.rate t (factsG g)).2.1 < (lookS g.rate t (factsG g)).1) = false by simpa using hx, cond_false]
        simp only [Bool.cond_eq_ite, Bool.and_eq_true, decide_eq_true_eq]
        split <;> split <;> exact ih _ _
    · have e1 : decide (t < to) = false := by simpa using hc
      have ew : (to - t).toNat = 0 := by omega
      rw [e1, cond_false, ew]
      rfl
theorem rAlarm (N : Nat) (hN : 2100 < N) (g : Ga) (limit fr to : Int) (hf : -9223372036854775808 ≤ fr) (ht : to ≤ 9223372036854775807) : D_putlogref24_Alarm N g.d g.R g.tol g.rate g.S limit fr to = some (alarmS g limit fr to) := by
  unfold D_putlogref24_Alarm
  rw [rvalid24 N (by omega)]
  simp only [Option.bind_some]
  unfold alarmS
  by_cases h : validG g = true ∧ 0 ≤ fr ∧ fr < to ∧ to ≤ 10000001
  · have e1 : (((!(validG g) || decide (fr < 0)) || decide (to ≤ fr)) || decide (10000001 < to)) = false := by rw [h.1]; simp; omega
    have j : I64 (to - fr) := by unfold I64; omega
    rw [e1, cond_false, gd_of j]
    by_cases hc : 2000 < to - fr
    · rw [show decide (2000 < to - fr) = true by simpa using hc, cond_true, if_pos (by unfold alarmBad; omega)]
    · rw [show decide (2000 < to - fr) = false by simpa using hc, cond_false, if_neg (by unfold alarmBad; rw [h.1]; simp; omega)]
      rw [ral_L1 N (by omega) g limit to h.1 h.2.2.2 N fr (-1) (-1) h.2.1 (by omega) (by omega)]
      cases watchS g.rate (factsG g) limit (to - fr).toNat fr (-1) (-1) with
      | none => rfl
      | some r => rfl
  · have e1 : (((!(validG g) || decide (fr < 0)) || decide (to ≤ fr)) || decide (10000001 < to)) = true := by
      cases hv : validG g with
      | true => simp only [hv, true_and] at h; simp; omega
      | false => simp
    rw [e1, cond_true, if_pos (by
      unfold alarmBad
      cases hv : validG g with
      | true => simp only [hv, true_and] at h; simp; omega
      | false => simp)]
theorem rOver (N : Nat) (hN : 2100 < N) (g : Ga) (limit fr to : Int) (hf : -9223372036854775808 ≤ fr) (ht : to ≤ 9223372036854775807) : D_putlogref24_Over N g.d g.R g.tol g.rate g.S limit fr to = some (overS g limit fr to) := by
  unfold D_putlogref24_Over
  rw [rAlarm N hN g limit fr to hf ht]
  simp only [Option.bind_some]
  unfold overS
  generalize alarmS g limit fr to = A
  simp only [Bool.cond_eq_ite, decide_eq_true_eq]
  split
  · rfl
  · split
    · rfl
    · split <;> rfl
end Go.Proofs.Ytmmfbjmjhjmccaa.Am
