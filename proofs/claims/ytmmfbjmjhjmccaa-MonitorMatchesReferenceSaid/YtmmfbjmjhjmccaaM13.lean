/-
  Plain laws: the reference implementation computes the same (gauges).
-/
import Derived.Test.YtmmfbjmjhjmccaaM12
namespace Go.Proofs.Ytmmfbjmjhjmccaa.Am
set_option linter.unusedSimpArgs false
set_option linter.unusedVariables false
set_option maxHeartbeats 4000000
open Go
theorem rb05_L1 (N : Nat) (hN : 20 < N) (d l : Int) (R : List Rd3) (hR : R.length ≤ 12) (hb : ∀ r ∈ R, 0 ≤ r.1 ∧ r.1 ≤ 10000000 ∧ 0 ≤ r.2.1 ∧ r.2.1 ≤ 10000000 ∧ 0 ≤ r.2.2 ∧ r.2.2 ≤ 10000000) (hl : 0 ≤ l ∧ l ≤ 10000000) : ∀ (n k : Nat) (w : Int × Int), k ≤ R.length → R.length < n + k →
    D_putlogref05_bounds_L1 N R l d n w.1 w.2 k = some ((R.drop k).foldl (stepA d l) w)
  | 0, k, w, hk, hn => by omega
  | n + 1, k, w, hk, hn => by
    rw [D_putlogref05_bounds_L1]
    by_cases hc : k < R.length
    · have e1 : decide ((k : Int) < (R.length : Int)) = true := by simp; omega
      obtain ⟨⟨a, b, c⟩, hab⟩ : ∃ s, R[k] = s := ⟨_, rfl⟩
      have hn1 : nth R (k : Int) = some (a, b, c) := by rw [nth_nat, List.getElem?_eq_getElem hc, hab]
      have edk : R.drop k = (a, b, c) :: R.drop (k + 1) := by rw [List.drop_eq_getElem_cons hc, hab]
      have hbb := hb (a, b, c) (by rw [← hab]; exact List.getElem_mem _)
      simp only at hbb
      have j3 : I64 ((k : Int) + 1) := by unfold I64; omega
      have ih := fun w => rb05_L1 N hN d l R hR hb hl n (k + 1) w (by omega) (by omega)
      rw [edk, List.foldl_cons]
      simp only [e1, cond_true, hn1, Option.bind_some, rspread N hN, gd_of j3]
      by_cases h1 : l = a
      · have s0 := @spread_bd d 0
        have e2 : decide (l = a) = true := by simpa using h1
        have j4 : I64 (b - (spreadS d 0).2) := by unfold I64; omega
        have j5 : I64 (c + (spreadS d 0).2) := by unfold I64; omega
        have es : stepA d l w (a, b, c) = (max w.1 (b - (spreadS d 0).2), min w.2 (c + (spreadS d 0).2)) := by
          unfold stepA
          simp only
          rw [if_neg (by omega), if_pos h1, show max (l - a) (a - l) = 0 by omega]
          rfl
        rw [e2, cond_true, gd_of j4, gd_of j5, es]
        exact ih (max w.1 (b - (spreadS d 0).2), min w.2 (c + (spreadS d 0).2))
      · have e2 : decide (l = a) = false := by simpa using h1
        rw [e2, cond_false]
        by_cases h2 : a < l
        · have s0 := @spread_bd d (l - a)
          have e3 : decide (a < l) = true := by simpa using h2
          have j4 : I64 (l - a) := by unfold I64; omega
          have j5 : I64 (b + (spreadS d (l - a)).1) := by unfold I64; omega
          have j6 : I64 (c + (spreadS d (l - a)).2) := by unfold I64; omega
          have es : stepA d l w (a, b, c) = (max w.1 (b + (spreadS d (l - a)).1), min w.2 (c + (spreadS d (l - a)).2)) := by
            unfold stepA
            simp only
            rw [if_neg (by omega), if_neg h1, show max (l - a) (a - l) = l - a by omega]
          rw [e3, cond_true, gd_of j4, gd_of j5, gd_of j6, es]
          exact ih (max w.1 (b + (spreadS d (l - a)).1), min w.2 (c + (spreadS d (l - a)).2))
        · have s0 := @spread_bd d (a - l)
          have e3 : decide (a < l) = false := by simpa using h2
          have j4 : I64 (a - l) := by unfold I64; omega
          have j5 : I64 (b - (spreadS d (a - l)).2) := by unfold I64; omega
          have j6 : I64 (c - (spreadS d (a - l)).1) := by unfold I64; omega
          have es : stepA d l w (a, b, c) = (max w.1 (b - (spreadS d (a - l)).2), min w.2 (c - (spreadS d (a - l)).1)) := by
            unfold stepA
            simp only
            rw [if_pos (by omega), show max (l - a) (a - l) = a - l by omega]
            rfl
          rw [e3, cond_false, gd_of j4, gd_of j5, gd_of j6, es]
          exact ih (max w.1 (b - (spreadS d (a - l)).2), min w.2 (c - (spreadS d (a - l)).1))
    · have e1 : decide ((k : Int) < (R.length : Int)) = false := by simp; omega
      rw [e1, cond_false, List.drop_eq_nil_of_le (by omega)]
      rfl
theorem validC_parts {d : Int} {R : List Rd3} (h : validC d R = true) : (0 ≤ d ∧ d ≤ 100) ∧ R.length ≤ 12 ∧ chainS (-1) R = true := by
  simp only [validC, Bool.and_eq_true, decide_eq_true_eq] at h
  exact ⟨h.1.1, h.1.2, h.2⟩
theorem rat05 (N : Nat) (hN : 20 < N) (d l : Int) (R : List Rd3) : D_putlogref05_At N d R l = some (atS d R l) := by
  unfold D_putlogref05_At
  rw [rv05 N hN]
  simp only [Option.bind_some]
  unfold atS
  by_cases hv : validC d R = true
  · by_cases hl : 0 ≤ l ∧ l ≤ 10000000
    · have e1 : ((!(validC d R) || decide (l < 0)) || decide (10000000 < l)) = false := by rw [hv]; simp; omega
      obtain ⟨h1, h2, h3⟩ := validC_parts hv
      have hL := rb05_L1 N hN d l R h2 (fun r hr => by have := chain_get h3 r hr; omega) hl N 0 (0, 10000000) (by omega) (by omega)
      have e0 : ((0 : Nat) : Int) = 0 := rfl
      rw [e0, List.drop_zero] at hL
      simp only at hL
      rw [e1, cond_false, if_neg (by rw [hv]; simp; omega)]
      unfold D_putlogref05_bounds
      rw [hL]
      simp only [Option.bind_some]
      change (bif decide ((aroundS d l R).2 < (aroundS d l R).1) then _ else _) = _
      by_cases hc : (aroundS d l R).2 < (aroundS d l R).1
      · rw [if_pos hc, show decide ((aroundS d l R).2 < (aroundS d l R).1) = true by simpa using hc]; rfl
      · rw [if_neg hc, show decide ((aroundS d l R).2 < (aroundS d l R).1) = false by simpa using hc]; rfl
    · have e1 : ((!(validC d R) || decide (l < 0)) || decide (10000000 < l)) = true := by rw [hv]; simp; omega
      rw [e1, cond_true, if_pos (by omega)]
  · have hv' : validC d R = false := by simpa using hv
    have e1 : ((!(validC d R) || decide (l < 0)) || decide (10000000 < l)) = true := by rw [hv']; simp
    rw [e1, cond_true, if_pos (.inl hv')]

theorem rv24_L1 (N : Nat) (S : List Sm) (hS : S.length ≤ 24) : ∀ (n k : Nat) (l : Int), k ≤ S.length → S.length < n + k → (k = 0 → l = -1) → (0 < k → l = (S.getD (k - 1) (0, 0)).1 ∧ 0 ≤ l) →
    D_putlogref24_Valid_L1 N S n k = some (if chain2 l (S.drop k) = true then .inl () else .inr false)
  | 0, k, l, hk, hn, h0, h1 => by omega
  | n + 1, k, l, hk, hn, h0, h1 => by
    rw [D_putlogref24_Valid_L1]
    by_cases hc : k < S.length
    · have e1 : decide ((k : Int) < (S.length : Int)) = true := by simp; omega
      obtain ⟨⟨a, b⟩, hab⟩ : ∃ s, S[k] = s := ⟨_, rfl⟩
      have hn1 : nth S (k : Int) = some (a, b) := by rw [nth_nat, List.getElem?_eq_getElem hc, hab]
      have edk : S.drop k = (a, b) :: S.drop (k + 1) := by rw [List.drop_eq_getElem_cons hc, hab]
      have j1 : decide (0 < (k : Int)) = true → I64 ((k : Int) - 1) := by intro _; unfold I64; omega
      have j2 : decide (0 < (k : Int)) = true → 0 ≤ (k : Int) - 1 ∧ (k : Int) - 1 < (S.length : Int) := by simp; omega
      have j3 : I64 ((k : Int) + 1) := by unfold I64; omega
      have ek : ((k : Int) - 1).toNat = k - 1 := by omega
      have hab2 : S.getD k (0, 0) = (a, b) := by rw [List.getD_eq_getElem?_getD, List.getElem?_eq_getElem hc, hab]; rfl
      simp only [e1, cond_true, hn1, Option.bind_some, gd_of j1, gd_of j2, gd_of j3, ek]
      obtain ⟨p, hp⟩ : ∃ p, (S.getD (k - 1) (0, 0)).1 = p := ⟨_, rfl⟩
      rw [hp] at h1 ⊢
      rw [edk]
      have ih := rv24_L1 N S hS n (k + 1) a (by omega) (by omega) (by omega)
      by_cases hg : l < a ∧ a ≤ 10000000 ∧ -1000000 ≤ b ∧ b ≤ 1000000
      · have e2 : ((((decide (a < 0) || decide (10000000 < a)) || decide (b < -1000000)) || decide (1000000 < b)) || (decide (0 < (k : Int)) && decide (a ≤ p))) = false := by
          rw [← Bool.not_eq_true]
          simp only [Bool.or_eq_true, Bool.and_eq_true, decide_eq_true_eq]
          rcases Nat.eq_zero_or_pos k with hk0 | hk0
          · have := h0 hk0
            omega
          · have := h1 hk0
            omega
        have e3 : chain2 l ((a, b) :: S.drop (k + 1)) = chain2 a (S.drop (k + 1)) := by
          simp [chain2, hg]
        rw [e2, cond_false, e3]
        exact ih (fun _ => ⟨by rw [Nat.add_sub_cancel, hab2], by
          rcases Nat.eq_zero_or_pos k with hk0 | hk0
          · have := h0 hk0; omega
          · have := h1 hk0; omega⟩)
      · have e2 : ((((decide (a < 0) || decide (10000000 < a)) || decide (b < -1000000)) || decide (1000000 < b)) || (decide (0 < (k : Int)) && decide (a ≤ p))) = true := by
          simp only [Bool.or_eq_true, Bool.and_eq_true, decide_eq_true_eq]
          rcases Nat.eq_zero_or_pos k with hk0 | hk0
          · have := h0 hk0
            omega
          · have := h1 hk0
            omega
        have e3 : chain2 l ((a, b) :: S.drop (k + 1)) = false := by
          rw [← Bool.not_eq_true]
          simp only [chain2, Bool.and_eq_true, decide_eq_true_eq]
          intro hh
          exact hg (by omega)
        rw [e2, cond_true, e3]
        rfl
    · have e1 : decide ((k : Int) < (S.length : Int)) = false := by simp; omega
      rw [e1, cond_false, List.drop_eq_nil_of_le (by omega)]
      rfl
theorem rvalid24 (N : Nat) (hN : 40 < N) (g : Ga) : D_putlogref24_Valid N g.d g.R g.tol g.rate g.S = some (validG g) := by
  unfold D_putlogref24_Valid
  rw [rv05 N (by omega)]
  simp only [Option.bind_some]
  by_cases hg : validC g.d g.R = true ∧ (0 ≤ g.tol ∧ g.tol ≤ 1000) ∧ (0 ≤ g.rate ∧ g.rate ≤ 1000) ∧ (g.S.length : Int) ≤ 24
  · have e1 : (((((!(validC g.d g.R) || decide (g.tol < 0)) || decide (1000 < g.tol)) || decide (g.rate < 0)) || decide (1000 < g.rate)) || decide (24 < (g.S.length : Int))) = false := by
      rw [hg.1]; simp; omega
    have hL := rv24_L1 N g.S (by omega) N 0 (-1) (by omega) (by omega) (fun _ => rfl) (by omega)
    have e0 : ((0 : Nat) : Int) = 0 := rfl
    rw [e0] at hL
    rw [e1, cond_false, hL]
    simp only [Option.bind_some, List.drop_zero]
    have e2 : validG g = chain2 (-1) g.S := by
      obtain ⟨a, b, c, d⟩ := hg
      simp [validG, a, b, c, d]
    rw [e2]
    cases chain2 (-1) g.S <;> rfl
  · have e1 : (((((!(validC g.d g.R) || decide (g.tol < 0)) || decide (1000 < g.tol)) || decide (g.rate < 0)) || decide (1000 < g.rate)) || decide (24 < (g.S.length : Int))) = true := by
      cases hv : validC g.d g.R with
      | true =>
        simp only [hv, true_and] at hg
        simp only [Bool.not_true, Bool.or_eq_true, decide_eq_true_eq]
        omega
      | false => simp
    rw [e1, cond_true]
    have : validG g = false := by
      rw [← Bool.not_eq_true]
      intro h
      obtain ⟨v1, v2, v3, v4, v5⟩ := validG_parts h
      exact hg ⟨v2, v3, v4, by omega⟩
    rw [this]
end Go.Proofs.Ytmmfbjmjhjmccaa.Am
