/-
  Plain laws: the reference implementation computes the same (clocks).
-/
import Derived.Test.YtmmfbjmjhjmccaaD5
namespace Go.Proofs.Ytmmfbjmjhjmccaa.Am
set_option linter.unusedSimpArgs false
set_option linter.unusedVariables false
set_option maxHeartbeats 4000000
open Go
/-! ### Valid -/
theorem rv05_L1 (N : Nat) (R : List Rd3) (hR : R.length ≤ 12) : ∀ (n k : Nat) (l : Int), k ≤ R.length → R.length < n + k → (k = 0 → l = -1) → (0 < k → l = (R.getD (k - 1) (0, 0, 0)).1 ∧ 0 ≤ l) →
    D_putlogref05_Valid_L1 N R n k = some (if chainS l (R.drop k) = true then .inl () else .inr false)
  | 0, k, l, hk, hn, h0, h1 => by omega
  | n + 1, k, l, hk, hn, h0, h1 => by
    rw [D_putlogref05_Valid_L1]
    by_cases hc : k < R.length
    · have e1 : decide ((k : Int) < (R.length : Int)) = true := by simp; omega
      obtain ⟨⟨a, b, c⟩, hab⟩ : ∃ s, R[k] = s := ⟨_, rfl⟩
      have hn1 : nth R (k : Int) = some (a, b, c) := by rw [nth_nat, List.getElem?_eq_getElem hc, hab]
      have edk : R.drop k = (a, b, c) :: R.drop (k + 1) := by rw [List.drop_eq_getElem_cons hc, hab]
      have j1 : decide (0 < (k : Int)) = true → I64 ((k : Int) - 1) := by intro _; unfold I64; omega
      have j2 : decide (0 < (k : Int)) = true → 0 ≤ (k : Int) - 1 ∧ (k : Int) - 1 < (R.length : Int) := by simp; omega
      have j3 : I64 ((k : Int) + 1) := by unfold I64; omega
      have ek : ((k : Int) - 1).toNat = k - 1 := by omega
      have hab2 : R.getD k (0, 0, 0) = (a, b, c) := by rw [List.getD_eq_getElem?_getD, List.getElem?_eq_getElem hc, hab]; rfl
      simp only [e1, cond_true, hn1, Option.bind_some, gd_of j1, gd_of j2, gd_of j3, ek]
      obtain ⟨p, hp⟩ : ∃ p, (R.getD (k - 1) (0, 0, 0)).1 = p := ⟨_, rfl⟩
      rw [hp] at h1 ⊢
      rw [edk]
      have ih := rv05_L1 N R hR n (k + 1) a (by omega) (by omega) (by omega)
      by_cases hg : l < a ∧ a ≤ 10000000 ∧ 0 ≤ b ∧ b ≤ c ∧ c ≤ 10000000
      · have e2 : (((((decide (a < 0) || decide (10000000 < a)) || decide (b < 0)) || decide (c < b)) || decide (10000000 < c)) || (decide (0 < (k : Int)) && decide (a ≤ p))) = false := by
          rw [← Bool.not_eq_true]
          simp only [Bool.or_eq_true, Bool.and_eq_true, decide_eq_true_eq]
          rcases Nat.eq_zero_or_pos k with hk0 | hk0
          · have := h0 hk0
            omega
          · have := h1 hk0
            omega
        have e3 : chainS l ((a, b, c) :: R.drop (k + 1)) = chainS a (R.drop (k + 1)) := by
          simp [chainS, hg]
        rw [e2, cond_false, e3]
        exact ih (fun _ => ⟨by rw [Nat.add_sub_cancel, hab2], by
          rcases Nat.eq_zero_or_pos k with hk0 | hk0
          · have := h0 hk0; omega
          · have := h1 hk0; omega⟩)
      · have e2 : (((((decide (a < 0) || decide (10000000 < a)) || decide (b < 0)) || decide (c < b)) || decide (10000000 < c)) || (decide (0 < (k : Int)) && decide (a ≤ p))) = true := by
          simp only [Bool.or_eq_true, Bool.and_eq_true, decide_eq_true_eq]
          rcases Nat.eq_zero_or_pos k with hk0 | hk0
          · have := h0 hk0
            omega
          · have := h1 hk0
            omega
        have e3 : chainS l ((a, b, c) :: R.drop (k + 1)) = false := by
          rw [← Bool.not_eq_true]
          simp only [chainS, Bool.and_eq_true, decide_eq_true_eq]
          intro hh
          exact hg ⟨hh.1.1.1.1.1, hh.1.1.1.1.2, hh.1.1.1.2, hh.1.1.2, hh.1.2⟩
        rw [e2, cond_true, e3]
        rfl
    · have e1 : decide ((k : Int) < (R.length : Int)) = false := by simp; omega
      rw [e1, cond_false, List.drop_eq_nil_of_le (by omega)]
      rfl
theorem rv05 (N : Nat) (hN : 20 < N) (d : Int) (R : List Rd3) : D_putlogref05_Valid N d R = some (validC d R) := by
  unfold D_putlogref05_Valid
  by_cases hg : 0 ≤ d ∧ d ≤ 100 ∧ R.length ≤ 12
  · have e1 : ((decide (d < 0) || decide (100 < d)) || decide (12 < (R.length : Int))) = false := by simp; omega
    have hL := rv05_L1 N R hg.2.2 N 0 (-1) (by omega) (by omega) (fun _ => rfl) (by omega)
    have e0 : ((0 : Nat) : Int) = 0 := rfl
    rw [e0] at hL
    rw [e1, cond_false, hL]
    simp only [Option.bind_some, List.drop_zero, validC]
    have e2 : (decide (0 ≤ d) && decide (d ≤ 100) && decide (R.length ≤ 12) && chainS (-1) R) = chainS (-1) R := by simp [hg]
    rw [e2]
    cases chainS (-1) R <;> rfl
  · have e1 : ((decide (d < 0) || decide (100 < d)) || decide (12 < (R.length : Int))) = true := by simp; omega
    rw [e1, cond_true]
    have : validC d R = false := by
      rw [← Bool.not_eq_true]
      simp only [validC, Bool.and_eq_true, decide_eq_true_eq]
      intro h
      exact hg ⟨h.1.1.1, h.1.1.2, h.1.2⟩
    rw [this]

/-! ### Spread -/
def fitsP (d x n : Int) : Prop := (1000 - d) * x - 1000 < 1000 * n ∧ 1000 * n < (1000 + d) * x + 1000
instance (d x n : Int) : Decidable (fitsP d x n) := inferInstanceAs (Decidable (_ ∧ _))
theorem mul_dx {k x : Int} (hk : 0 ≤ k ∧ k ≤ 2000) (hx : 0 ≤ x ∧ x ≤ 100000000) : 0 ≤ k * x ∧ k * x ≤ 200000000000 := by
  refine ⟨Int.mul_nonneg hk.1 hx.1, ?_⟩
  calc k * x ≤ 2000 * x := Int.mul_le_mul_of_nonneg_right hk.2 hx.1
    _ ≤ 200000000000 := by omega
theorem fits_eq (N : Nat) {d x n : Int} (hd : 0 ≤ d ∧ d ≤ 100) (hx : 0 ≤ x ∧ x ≤ 100000000) (hn : 0 ≤ n ∧ n ≤ 10000000) : D_putlogref05_Fits N d x n = some (decide (fitsP d x n)) := by
  unfold D_putlogref05_Fits
  have m1 := @mul_dx (1000 - d) x (by omega) hx
  have m2 := @mul_dx (1000 + d) x (by omega) hx
  have j1 : I64 (1000 - d) := by unfold I64; omega
  have j2 : I64 ((1000 - d) * x) := by unfold I64; omega
  have j3 : I64 ((1000 - d) * x - 1000) := by unfold I64; omega
  have j4 : I64 (1000 * n) := by unfold I64; omega
  have j5 : I64 (1000 + d) := by unfold I64; omega
  have j6 : I64 ((1000 + d) * x) := by unfold I64; omega
  have j7 : I64 ((1000 + d) * x + 1000) := by unfold I64; omega
  rw [gd_of j1, gd_of j2, gd_of j3, gd_of j4, gd_of (fun _ => j4), gd_of (fun _ => j5), gd_of (fun _ => j6), gd_of (fun _ => j7)]
  rw [Option.some.injEq, Bool.eq_iff_iff, Bool.and_eq_true, decide_eq_true_iff, decide_eq_true_iff, decide_eq_true_iff]
  exact Iff.rfl
theorem spr_L1 (N : Nat) {d n : Int} (hd : 0 ≤ d ∧ d ≤ 100) (hn : 0 ≤ n ∧ n ≤ 10000000) {y : Int} (hy : y ≤ 50000000) (hfit : fitsP d y n) : ∀ (k : Nat) (x : Int), 0 ≤ x → x ≤ y → y - x < k → (∀ z, x ≤ z → z < y → ¬ fitsP d z n) → D_putlogref05_Spread_L1 N d n k x = some y
  | 0, x, h0, h1, h2, h3 => by omega
  | k + 1, x, h0, h1, h2, h3 => by
    rw [D_putlogref05_Spread_L1, fits_eq N hd (by omega) hn]
    simp only [Option.bind_some]
    by_cases he : x = y
    · subst he
      simp [hfit]
    · have := h3 x (Int.le_refl _) (by omega)
      have j : I64 (x + 1) := by unfold I64; omega
      simp only [this, decide_false, Bool.not_false, cond_true, gd_of j]
      exact spr_L1 N hd hn hy hfit k (x + 1) (by omega) (by omega) (by omega) (fun z a b => h3 z (by omega) b)
theorem spr_L2 (N : Nat) {d n : Int} (hd : 0 ≤ d ∧ d ≤ 100) (hn : 0 ≤ n ∧ n ≤ 10000000) {y : Int} (hy : y ≤ 50000000) (hfit : ¬ fitsP d (y + 1) n) : ∀ (k : Nat) (x : Int), 0 ≤ x → x ≤ y → y - x < k → (∀ z, x < z → z ≤ y → fitsP d z n) → D_putlogref05_Spread_L2 N d n k x = some y
  | 0, x, h0, h1, h2, h3 => by omega
  | k + 1, x, h0, h1, h2, h3 => by
    have j : I64 (x + 1) := by unfold I64; omega
    rw [D_putlogref05_Spread_L2, gd_of j, fits_eq N hd (by omega) hn]
    simp only [Option.bind_some]
    by_cases he : x = y
    · subst he
      simp [hfit]
    · have := h3 (x + 1) (by omega) (by omega)
      simp only [this, decide_true, cond_true, gd_of j]
      exact spr_L2 N hd hn hy hfit k (x + 1) (by omega) (by omega) (by omega) (fun z a b => h3 z (by omega) b)

theorem fits1 {d x n : Int} (hd : 0 ≤ d ∧ d ≤ 100) (hx : 0 ≤ x) : (1000 - d) * x - 1000 < 1000 * n ↔ x ≤ (1000 * (n + 1) - 1) / (1000 - d) := by
  rw [Int.le_ediv_iff_mul_le (by omega), Int.mul_comm x]
  omega
theorem fits2 {d x n : Int} (hd : 0 ≤ d ∧ d ≤ 100) : 1000 * n < (1000 + d) * x + 1000 ↔ (1000 * (n - 1)) / (1000 + d) + 1 ≤ x := by
  constructor
  · intro h
    have : (1000 * (n - 1)) / (1000 + d) < x := by
      rw [Int.ediv_lt_iff_lt_mul (by omega), Int.mul_comm x]
      omega
    omega
  · intro h
    have : (1000 * (n - 1)) / (1000 + d) < x := by omega
    rw [Int.ediv_lt_iff_lt_mul (by omega), Int.mul_comm x] at this
    omega
theorem rspread (N : Nat) (hN : 20 < N) (d n : Int) : D_putlogref05_Spread N d n = some (spreadS d n) := by
  unfold D_putlogref05_Spread spreadS
  by_cases hg : d < 0 ∨ 100 < d ∨ n < 0 ∨ 10000000 < n
  · have e1 : (((decide (d < 0) || decide (100 < d)) || decide (n < 0)) || decide (10000000 < n)) = true := by simp; omega
    rw [e1, cond_true, if_pos hg]
  · have e1 : (((decide (d < 0) || decide (100 < d)) || decide (n < 0)) || decide (10000000 < n)) = false := by simp; omega
    rw [e1, cond_false, if_neg hg]
    have hd : 0 ≤ d ∧ d ≤ 100 := by omega
    have hn : 0 ≤ n ∧ n ≤ 10000000 := by omega
    -- the least
    obtain ⟨y, hy⟩ : ∃ y, (if 0 < n then (1000 * (n - 1)).tdiv (1000 + d) + 1 else 0) = y := ⟨_, rfl⟩
    obtain ⟨q, hq⟩ : ∃ q, (1000 * (n - 1)).tdiv (1000 + d) = q := ⟨_, rfl⟩
    obtain ⟨m, hm⟩ : ∃ m, (1000 * (n + 1) - 1).tdiv (1000 - d) = m := ⟨_, rfl⟩
    obtain ⟨w, hw⟩ : ∃ w, (1000 * n).tdiv (1000 - d) = w := ⟨_, rfl⟩
    have hm2 : m = (1000 * (n + 1) - 1) / (1000 - d) := by rw [← hm, Int.tdiv_eq_ediv_of_nonneg (by omega)]
    have hw2 : w = (1000 * n) / (1000 - d) := by rw [← hw, Int.tdiv_eq_ediv_of_nonneg (by omega)]
    have mb := @Int.ediv_mul_le (1000 * (n + 1) - 1) (1000 - d) (by omega)
    have mb2 := Int.lt_ediv_add_one_mul_self (1000 * (n + 1) - 1) (show 0 < 1000 - d by omega)
    have wb := @Int.ediv_mul_le (1000 * n) (1000 - d) (by omega)
    have wb2 := Int.lt_ediv_add_one_mul_self (1000 * n) (show 0 < 1000 - d by omega)
    rw [← hm2] at mb mb2
    rw [← hw2] at wb wb2
    have f1 : ∀ x : Int, 0 ≤ x → ((1000 - d) * x - 1000 < 1000 * n ↔ x ≤ m) := fun x hx => by rw [hm2]; exact fits1 hd hx
    have hmn : 0 ≤ m := by rw [hm2]; exact Int.ediv_nonneg (by omega) (by omega)
    have hwn : 0 ≤ w := by rw [hw2]; exact Int.ediv_nonneg (by omega) (by omega)
    have hmu : m ≤ 20000000 := by
      rcases Int.lt_or_le m 20000001 with h | h
      · omega
      · have : 900 * m ≤ m * (1000 - d) := by rw [Int.mul_comm m]; exact Int.mul_le_mul_of_nonneg_right (by omega) hmn
        omega
    have hwm : w ≤ m := by
      rw [hw2, hm2]
      exact Int.ediv_le_ediv (by omega) (by omega)
    have hmw : m ≤ w + 2 := by
      have h1 : (w + 1) * (1000 - d) = w * (1000 - d) + (1000 - d) := by rw [Int.add_mul, Int.one_mul]
      rcases Int.lt_or_le m (w + 3) with h | h
      · omega
      · have h2 : (w + 3) * (1000 - d) ≤ m * (1000 - d) := Int.mul_le_mul_of_nonneg_right h (by omega)
        have h3 : (w + 3) * (1000 - d) = w * (1000 - d) + 3 * (1000 - d) := by rw [Int.add_mul]
        omega
    have f2 : ∀ x : Int, 0 ≤ x → (1000 * n < (1000 + d) * x + 1000 ↔ y ≤ x) := fun x hx => by
      rw [fits2 hd]
      by_cases h0 : 0 < n
      · rw [if_pos h0, Int.tdiv_eq_ediv_of_nonneg (by omega)] at hy
        rw [hy]
      · rw [if_neg h0] at hy
        have hn0 : n = 0 := by omega
        subst hn0
        constructor
        · intro _; omega
        · intro _
          have : 1000 * ((0 : Int) - 1) / (1000 + d) < 0 := Int.ediv_neg_of_neg_of_pos (by omega) (by omega)
          omega
    have hfit : ∀ x : Int, 0 ≤ x → (fitsP d x n ↔ y ≤ x ∧ x ≤ m) := fun x hx => by
      unfold fitsP
      rw [f1 x hx, f2 x hx]
      exact And.comm
    have hyq : 0 ≤ y ∧ y ≤ m ∧ (0 < n → y = q + 1) ∧ (n = 0 → y = 0 ∧ -1 ≤ q ∧ q ≤ 0) ∧ (0 < n → 0 ≤ q) := by
      by_cases h0 : 0 < n
      · rw [if_pos h0, hq] at hy
        have hqn : 0 ≤ q := by rw [← hq]; exact Int.tdiv_nonneg (by omega) (by omega)
        have hq2 : q = (1000 * (n - 1)) / (1000 + d) := by rw [← hq, Int.tdiv_eq_ediv_of_nonneg (by omega)]
        have qb := @Int.ediv_mul_le (1000 * (n - 1)) (1000 + d) (by omega)
        rw [← hq2] at qb
        have : (1000 - d) * (q + 1) ≤ (1000 + d) * q + 1000 := by
          have h1 : (1000 - d) * (q + 1) = (1000 - d) * q + (1000 - d) := by rw [Int.mul_add, Int.mul_one]
          have h2 : (1000 - d) * q ≤ (1000 + d) * q := Int.mul_le_mul_of_nonneg_right (by omega) hqn
          omega
        have h3 : (1000 + d) * q = q * (1000 + d) := Int.mul_comm _ _
        have := (f1 (q + 1) (by omega)).1 (by omega)
        exact ⟨by omega, by omega, fun _ => hy.symm, fun h => by omega, fun _ => hqn⟩
      · rw [if_neg h0] at hy
        have hn0 : n = 0 := by omega
        subst hn0
        have e : (1000 * ((0 : Int) - 1)).tdiv (1000 + d) = q := hq
        have : q = -((1000 : Int).tdiv (1000 + d)) := by rw [← e, show 1000 * ((0 : Int) - 1) = -1000 from rfl, Int.neg_tdiv]
        have h5 : (1000 : Int).tdiv (1000 + d) = 1000 / (1000 + d) := Int.tdiv_eq_ediv_of_nonneg (by omega)
        have h6 : 0 ≤ (1000 : Int) / (1000 + d) := Int.ediv_nonneg (by omega) (by omega)
        have h7 : (1000 : Int) / (1000 + d) ≤ 1 := by
          have := Int.ediv_lt_iff_lt_mul (a := 1000) (b := 2) (c := 1000 + d) (by omega)
          have := this.2 (by omega)
          omega
        exact ⟨by omega, by omega, fun h => by omega, fun _ => ⟨by omega, by omega, by omega⟩, fun h => by omega⟩
    obtain ⟨y0, ym, y1, y2, y3⟩ := hyq
    have hqs : -1 ≤ q ∧ q ≤ m := by
      rcases (by omega : 0 < n ∨ n = 0) with h | h
      · have := y1 h; have := y3 h; omega
      · have := y2 h; omega
    have j1 : I64 (n - 1) := by unfold I64; omega
    have j2 : I64 (1000 * (n - 1)) := by unfold I64; omega
    have j3 : I64 (1000 + d) := by unfold I64; omega
    have j4 : 1000 + d ≠ 0 := by omega
    have j5 : I64 q := by unfold I64; omega
    have j6 : I64 (q - 1) := by unfold I64; omega
    have j7 : I64 (1000 * n) := by unfold I64; omega
    have j8 : I64 (1000 - d) := by unfold I64; omega
    have j9 : 1000 - d ≠ 0 := by omega
    have j10 : I64 w := by unfold I64; omega
    have j11 : I64 (w - 1) := by unfold I64; omega
    have hL1 := spr_L1 N hd hn (y := y) (by omega) ((hfit y y0).2 ⟨Int.le_refl _, ym⟩) N (max (q - 1) 0) (by omega) (by omega) (by
      rcases (by omega : 0 < n ∨ n = 0) with h | h
      · have := y1 h; omega
      · have := y2 h; omega) (fun z a b => by rw [hfit z (by omega)]; omega)
    have hL2 := spr_L2 N hd hn (y := m) (by omega) (by rw [hfit (m + 1) (by omega)]; omega) N (max (w - 1) y) (by omega) (by omega) (by omega) (fun z a b => by rw [hfit z (by omega)]; omega)
    simp only [hq, hw, hm, hy, gd_of j1, gd_of j2, gd_of j3, gd_of j4, gd_of j5, gd_of j6, hL1, Option.bind_some, gd_of j7, gd_of j8, gd_of j9, gd_of j10, gd_of j11, hL2]
    rw [← hy, hq]
end Go.Proofs.Ytmmfbjmjhjmccaa.Am
