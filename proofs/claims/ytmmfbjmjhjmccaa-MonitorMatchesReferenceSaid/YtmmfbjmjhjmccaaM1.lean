/-
  Plain laws of clocks and gauges: a story's gauge is valid and faithful.
-/
import Derived.Test.YtmmfbjmjhjmccaaP10
namespace Go.Proofs.Ytmmfbjmjhjmccaa.Am
set_option linter.unusedSimpArgs false
set_option linter.unusedVariables false
open Go
/-! ### What a course shows -/
def bigF (d t : Int) (rates : List Int) : Int := shSum d t 0 rates + 1000 * t

theorem shSum_step {d : Int} (hd : 0 ≤ d ∧ d ≤ 100) : ∀ (rates : List Int) (i : Nat) (t : Int), -d ≤ shSum d (t + 1) i rates - shSum d t i rates ∧ shSum d (t + 1) i rates - shSum d t i rates ≤ d
  | [], i, t => by simp [shSum]; omega
  | r :: rs, i, t => by
    have hp := @pick_bd r (2 * d + 1) (by omega)
    have ih := shSum_step hd rs (i + 1) t
    have zero : ∀ s : Int, s ≤ 100 * ((i + 1 : Nat) : Int) → shSum d s (i + 1) rs = 0 := by
      intro s hs
      cases rs with
      | nil => rfl
      | cons _ _ => simp only [shSum]; rw [if_neg (by omega)]
    simp only [shSum]
    generalize hq : pickS r (2 * d + 1) - d = q at *
    have hqb : -d ≤ q ∧ q ≤ d := by omega
    by_cases h20 : i < 20
    · by_cases h1 : 100 * (i : Int) < t
      · rw [if_pos (show i < 20 ∧ 100 * (i : Int) < t + 1 by omega), if_pos (show i < 20 ∧ 100 * (i : Int) < t from ⟨h20, h1⟩)]
        by_cases h2 : t < 100 * (i : Int) + 100
        · rw [zero t (by omega), zero (t + 1) (by omega)]
          have e1 : min (t - 100 * (i : Int)) 100 = t - 100 * i := by omega
          have e2 : min (t + 1 - 100 * (i : Int)) 100 = (t - 100 * i) + 1 := by omega
          rw [e1, e2, Int.mul_add]
          omega
        · have e1 : min (t - 100 * (i : Int)) 100 = 100 := by omega
          have e2 : min (t + 1 - 100 * (i : Int)) 100 = 100 := by omega
          rw [e1, e2]
          omega
      · rw [if_neg (show ¬ (i < 20 ∧ 100 * (i : Int) < t) from fun h => h1 h.2)]
        by_cases h2 : 100 * (i : Int) < t + 1
        · rw [if_pos (show i < 20 ∧ 100 * (i : Int) < t + 1 from ⟨h20, h2⟩), zero (t + 1) (by omega)]
          have e2 : min (t + 1 - 100 * (i : Int)) 100 = 1 := by omega
          rw [e2]
          omega
        · rw [if_neg (show ¬ (i < 20 ∧ 100 * (i : Int) < t + 1) from fun h => h2 h.2)]
          omega
    · rw [if_neg (fun h => h20 h.1), if_neg (fun h => h20 h.1)]
      omega

theorem bigF_lip {d : Int} (hd : 0 ≤ d ∧ d ≤ 100) (rates : List Int) (t : Int) : ∀ x : Nat, (1000 - d) * x ≤ bigF d (t + x) rates - bigF d t rates ∧ bigF d (t + x) rates - bigF d t rates ≤ (1000 + d) * x
  | 0 => by simp
  | x + 1 => by
    have ih := bigF_lip hd rates t x
    have hs := shSum_step hd rates 0 (t + x)
    unfold bigF at *
    have e : t + ((x + 1 : Nat) : Int) = t + x + 1 := by omega
    rw [e]
    have e1 : (1000 - d) * ((x + 1 : Nat) : Int) = (1000 - d) * x + (1000 - d) := by rw [Int.natCast_add, Int.mul_add]; simp
    have e2 : (1000 + d) * ((x + 1 : Nat) : Int) = (1000 + d) * x + (1000 + d) := by rw [Int.natCast_add, Int.mul_add]; simp
    rw [e1, e2]
    omega

theorem bigF_zero (d : Int) (rates : List Int) : bigF d 0 rates = 0 := by
  unfold bigF
  cases rates with
  | nil => rfl
  | cons _ _ => simp [shSum]

theorem bigF_nonneg {d : Int} (hd : 0 ≤ d ∧ d ≤ 100) (rates : List Int) {t : Int} (ht : 0 ≤ t) : 0 ≤ bigF d t rates ∧ bigF d t rates ≤ 1100 * t := by
  have := bigF_lip hd rates 0 t.toNat
  rw [bigF_zero] at this
  have e : (0 : Int) + (t.toNat : Int) = t := by omega
  have e2 : ((t.toNat : Nat) : Int) = t := by omega
  rw [e, e2] at this
  have h1 : 0 ≤ (1000 - d) * t := Int.mul_nonneg (by omega) ht
  have h2 : (1000 + d) * t ≤ 1100 * t := Int.mul_le_mul_of_nonneg_right (by omega) ht
  omega

theorem shownS_eq {drift start : Int} {rates : List Int} {t : Int} (ht : 0 ≤ t) : shownS drift start rates t = pickS start 1000 + bigF (pickS drift 101) t rates / 1000 := by
  unfold shownS
  have hd := @pick_bd drift 101 (by omega)
  have := bigF_nonneg (d := pickS drift 101) (by omega) rates ht
  unfold bigF at this ⊢
  rw [Int.tdiv_eq_ediv_of_nonneg this.1]

/-- The inequality of a course. -/
theorem course {drift start : Int} {rates : List Int} {s u : Int} (hs : 0 ≤ s) (hu : s ≤ u) :
    (1000 - pickS drift 101) * (u - s) - 1000 < 1000 * (shownS drift start rates u - shownS drift start rates s) ∧ 1000 * (shownS drift start rates u - shownS drift start rates s) < (1000 + pickS drift 101) * (u - s) + 1000 ∧ shownS drift start rates s ≤ shownS drift start rates u := by
  have hd := @pick_bd drift 101 (by omega)
  rw [shownS_eq hs, shownS_eq (by omega)]
  have := bigF_lip (d := pickS drift 101) (by omega) rates s (u - s).toNat
  have e : s + (((u - s).toNat : Nat) : Int) = u := by omega
  have e2 : (((u - s).toNat : Nat) : Int) = u - s := by omega
  rw [e, e2] at this
  have h1 : 0 ≤ (1000 - pickS drift 101) * (u - s) := Int.mul_nonneg (by omega) (by omega)
  generalize bigF (pickS drift 101) u rates = A at *
  generalize bigF (pickS drift 101) s rates = B at *
  generalize (1000 - pickS drift 101) * (u - s) = X at *
  generalize (1000 + pickS drift 101) * (u - s) = Y at *
  omega

/-- Spread has room for every advance that a course allows. -/
theorem spread_in {d n x : Int} (hd : 0 ≤ d ∧ d ≤ 100) (hn : 0 ≤ n ∧ n ≤ 10000000) (hx : 0 ≤ x) (h1 : (1000 - d) * x - 1000 < 1000 * n) (h2 : 1000 * n < (1000 + d) * x + 1000) : (spreadS d n).1 ≤ x ∧ x ≤ (spreadS d n).2 := by
  have hc : ¬ (d < 0 ∨ 100 < d ∨ n < 0 ∨ 10000000 < n) := by omega
  simp only [spreadS, if_neg hc]
  constructor
  · split
    · rw [Int.tdiv_eq_ediv_of_nonneg (by omega)]
      have : 1000 * (n - 1) / (1000 + d) < x := Int.ediv_lt_of_lt_mul (by omega) (by have := Int.mul_comm x (1000 + d); omega)
      omega
    · exact hx
  · rw [Int.tdiv_eq_ediv_of_nonneg (by omega)]
    exact Int.le_ediv_of_mul_le (by omega) (by have := Int.mul_comm x (1000 - d); omega)
end Go.Proofs.Ytmmfbjmjhjmccaa.Am
