import Derived.Test.YtojciffnkbfbhaaMD
/-
  Plain laws: places counted by columns; the triangle.
-/
namespace Go.Proofs.Ytojciffnkbfbhaa.Am
set_option linter.unusedSimpArgs false
set_option linter.unusedVariables false
/-! ### Sums -/
theorem rs_neg (f : Nat → Int) (n : Nat) : rs (fun t => - f t) n = - rs f n := by
  induction n with
  | zero => rfl
  | succ n ih => rw [rs_succ, rs_succ, ih]; omega
theorem rs_sub (f g : Nat → Int) (n : Nat) : rs (fun t => f t - g t) n = rs f n - rs g n := by
  induction n with
  | zero => rfl
  | succ n ih => rw [rs_succ, rs_succ, rs_succ, ih]; omega
theorem rs_const (c : Int) (n : Nat) : rs (fun _ => c) n = c * n := by
  induction n with
  | zero => rw [rs_zero]; simp
  | succ n ih => rw [rs_succ, ih, ns, Int.mul_add]; omega
theorem rs_z {f : Nat → Int} {n : Nat} (h : ∀ t, t < n → f t = 0) : rs f n = 0 := by
  rw [rs_congr h, rs_const]; simp
theorem rs_front (f : Nat → Int) (n : Nat) : rs f (n + 1) = f 0 + rs (fun t => f (t + 1)) n := by
  have := rs_add f 1 n
  rw [Nat.add_comm 1 n] at this
  rw [this, rs_succ, rs_zero]
  have e : rs (fun t => f (1 + t)) n = rs (fun t => f (t + 1)) n := rs_congr fun t _ => by rw [Nat.add_comm]
  rw [e]; omega
theorem rs_rev (f : Nat → Int) (n : Nat) : rs (fun t => f (n - t)) (n + 1) = rs f (n + 1) := by
  induction n with
  | zero => rfl
  | succ n ih =>
    rw [rs_front, rs_succ f]
    have e : rs (fun t => f (n + 1 - (t + 1))) (n + 1) = rs (fun t => f (n - t)) (n + 1) := rs_congr fun t _ => by congr 1; omega
    rw [e, ih, Nat.sub_zero]; omega
def ii (p : Prop) [Decidable p] : Int := if p then 1 else 0
theorem ii_t {p : Prop} [Decidable p] (h : p) : ii p = 1 := if_pos h
theorem ii_f {p : Prop} [Decidable p] (h : ¬ p) : ii p = 0 := if_neg h
theorem ii_congr {p q : Prop} [Decidable p] [Decidable q] (h : p ↔ q) : ii p = ii q := by
  by_cases hp : p
  · rw [ii_t hp, ii_t (h.1 hp)]
  · rw [ii_f hp, ii_f (fun k => hp (h.2 k))]
/-- How many numbers below n are at least c. -/
theorem cnt_ge (c : Int) (h0 : 0 ≤ c) : ∀ n : Nat, c ≤ n → rs (fun y => ii (c ≤ (y : Int))) n = n - c
  | 0, h => by rw [rs_zero]; omega
  | n + 1, h => by
    rw [rs_succ]
    by_cases hc : c ≤ n
    · rw [cnt_ge c h0 n hc, ii_t hc]; omega
    · rw [ii_f hc, rs_z (fun t ht => ii_f (by omega))]; omega
/-! ### Numbers below a line -/
def kk (N d : Int) : Int := N / d - (-N) / d
def sg (t : Int) : Int := ii (0 ≤ t) + ii (0 < t)
theorem kk_rev {d : Int} (hd : 0 < d) (N H : Int) : kk (H * d - N) d = 2 * H - kk N d := by
  unfold kk
  have e1 : (H * d - N) / d = H + (-N) / d := by
    rw [show H * d - N = -N + H * d by omega, Int.add_mul_ediv_right _ _ (by omega)]; omega
  have e2 : (-(H * d - N)) / d = N / d - H := by
    rw [show -(H * d - N) = N + (-H) * d by rw [Int.neg_mul]; omega, Int.add_mul_ediv_right _ _ (by omega)]; omega
  rw [e1, e2]; omega
theorem col_sum {N d : Int} (hd : 0 < d) (h0 : 0 ≤ N) (h1 : N ≤ 40 * d) : rs (fun y => sg (d * (y : Int) - N)) 41 = 81 - kk N d := by
  have a0 : 0 ≤ N / d := Int.ediv_nonneg h0 (by omega)
  have a1 : N / d ≤ 40 := Int.ediv_le_of_le_mul hd h1
  have b1 : (-N) / d ≤ 0 := by
    have := Int.ediv_le_of_le_mul (a := -N) (b := 0) (c := d) hd (by omega)
    exact this
  have b0 : -40 ≤ (-N) / d := Int.le_ediv_of_mul_le hd (by omega)
  have e : rs (fun y => sg (d * (y : Int) - N)) 41 = rs (fun y => ii (-((-N) / d) ≤ (y : Int)) + ii (N / d + 1 ≤ (y : Int))) 41 := rs_congr fun y _ => by
    unfold sg
    congr 1
    · refine ii_congr ?_
      have q := Int.le_ediv_iff_mul_le hd (a := -(y : Int)) (b := -N)
      rw [Int.neg_mul, Int.mul_comm (y : Int) d] at q
      omega
    · refine ii_congr ?_
      have q := Int.ediv_lt_iff_lt_mul hd (a := N) (b := (y : Int))
      rw [Int.mul_comm (y : Int) d] at q
      omega
  rw [e, rs_plus (fun y => ii (-((-N) / d) ≤ (y : Int))) (fun y => ii (N / d + 1 ≤ (y : Int))), cnt_ge _ (by omega) 41 (by omega), cnt_ge _ (by omega) 41 (by omega)]
  unfold kk
  omega
/-- The columns below an edge. -/
theorem trap {d : Nat} (hd : 0 < d) (A B : Int) : rs (fun t => kk (A * ((d : Int) - t) + B * t) d) (d + 1) = (d + 1) * (A + B) := by
  have r := rs_rev (fun t => kk (A * ((d : Int) - t) + B * t) d) d
  have e : rs (fun t => kk (A * ((d : Int) - ((d - t : Nat) : Int)) + B * ((d - t : Nat) : Int)) d) (d + 1) = rs (fun t => 2 * (A + B) - kk (A * ((d : Int) - t) + B * t) d) (d + 1) := rs_congr fun t ht => by
    have : ((d - t : Nat) : Int) = d - t := by omega
    rw [this, ← kk_rev (by omega)]
    congr 1
    grind
  rw [e, rs_sub (fun _ => 2 * (A + B)), rs_const] at r
  have : 2 * rs (fun t => kk (A * ((d : Int) - t) + B * t) d) (d + 1) = 2 * ((d + 1) * (A + B)) := by
    rw [ns] at r
    have e3 : 2 * (A + B) * ((d : Int) + 1) = 2 * ((d + 1) * (A + B)) := by grind
    omega
  omega
theorem kk_int {d : Int} (hd : 0 < d) (A : Int) : kk (A * d) d = 2 * A := by
  unfold kk
  rw [Int.mul_ediv_cancel _ (by omega), ← Int.neg_mul, Int.mul_ediv_cancel _ (by omega)]; omega
/-! ### The triangle -/
def t3 (P Q R : Pt) (p : Pt) : Int := if 0 < trn P Q p ∧ 0 < trn Q R p ∧ 0 < trn R P p then 2 else if 0 ≤ trn P Q p ∧ 0 ≤ trn Q R p ∧ 0 ≤ trn R P p then 1 else 0
/-- The sum over the map. -/
def gsum (f : Pt → Int) : Int := rs (fun x => rs (fun y => f ((x : Int), (y : Int))) 41) 41
theorem bary (P Q R p : Pt) : trn Q R p * (P.1 - p.1) + trn R P p * (Q.1 - p.1) + trn P Q p * (R.1 - p.1) = 0 := by unfold trn; grind
theorem bsum (P Q R p : Pt) : trn Q R p + trn R P p + trn P Q p = trn P Q R := by unfold trn; grind
section
variable {P Q R : Pt} (hP : On P) (hQ : On Q) (hR : On R) (ha : 0 < trn P Q R) (h1 : P.1 ≤ Q.1) (h2 : Q.1 ≤ R.1)
theorem tri_lt (ha : 0 < trn P Q R) (h1 : P.1 ≤ Q.1) (h2 : Q.1 ≤ R.1) : P.1 < R.1 := by
  rcases Int.lt_or_le P.1 R.1 with h | h
  · exact h
  · exfalso
    have e1 : Q.1 - P.1 = 0 := by omega
    have e2 : R.1 - P.1 = 0 := by omega
    unfold trn at ha
    rw [e1, e2] at ha
    simp at ha
theorem col_out (ha : 0 < trn P Q R) (h1 : P.1 ≤ Q.1) (h2 : Q.1 ≤ R.1) {p : Pt} (hx : p.1 < P.1 ∨ R.1 < p.1) : t3 P Q R p = 0 := by
  have b := bary P Q R p
  have s := bsum P Q R p
  have no : ¬ (0 ≤ trn P Q p ∧ 0 ≤ trn Q R p ∧ 0 ≤ trn R P p) := by
    rintro ⟨a1, a2, a3⟩
    generalize trn P Q p = u at *
    generalize trn Q R p = v at *
    generalize trn R P p = w at *
    rcases hx with hx | hx
    · have c1 := Int.mul_nonneg a2 (show 0 ≤ P.1 - p.1 - 1 by omega)
      have c2 := Int.mul_nonneg a3 (show 0 ≤ Q.1 - p.1 - 1 by omega)
      have c3 := Int.mul_nonneg a1 (show 0 ≤ R.1 - p.1 - 1 by omega)
      rw [Int.mul_sub] at c1 c2 c3
      omega
    · have c1 := Int.mul_nonneg a2 (show 0 ≤ -(P.1 - p.1) - 1 by omega)
      have c2 := Int.mul_nonneg a3 (show 0 ≤ -(Q.1 - p.1) - 1 by omega)
      have c3 := Int.mul_nonneg a1 (show 0 ≤ -(R.1 - p.1) - 1 by omega)
      rw [Int.mul_sub, Int.mul_neg] at c1 c2 c3
      omega
  unfold t3
  rw [if_neg (fun h => no ⟨by omega, by omega, by omega⟩), if_neg no]
theorem mid1 (ha : 0 < trn P Q R) {p : Pt} (hx1 : P.1 < p.1) (hx2 : p.1 < R.1) (hx3 : p.1 ≤ Q.1) : t3 P Q R p = sg (trn P Q p) - sg (- trn R P p) := by
  have b := bary P Q R p
  have s := bsum P Q R p
  unfold t3
  generalize trn P Q p = u at *
  generalize trn Q R p = v at *
  generalize trn R P p = w at *
  have e : v * (p.1 - P.1) = w * (Q.1 - p.1) + u * (R.1 - p.1) := by grind
  have A : 0 < p.1 - P.1 := by omega
  have vnn : 0 ≤ u → 0 ≤ w → 0 ≤ v := fun a c => by
    have := Int.mul_nonneg c (show 0 ≤ Q.1 - p.1 by omega)
    have := Int.mul_nonneg a (show 0 ≤ R.1 - p.1 by omega)
    exact nn_of_mul A (by rw [Int.mul_comm]; omega)
  have vpos : 0 < u → 0 ≤ w → 0 < v := fun a c => by
    have := Int.mul_nonneg c (show 0 ≤ Q.1 - p.1 by omega)
    have := Int.mul_pos a (show 0 < R.1 - p.1 by omega)
    exact pos_of_mul A (by rw [Int.mul_comm]; omega)
  have both : ¬ (u ≤ 0 ∧ w ≤ 0) := by
    rintro ⟨a, c⟩
    have := Int.mul_nonneg (show 0 ≤ -w by omega) (show 0 ≤ Q.1 - p.1 by omega)
    have := Int.mul_nonneg (show 0 ≤ -u by omega) (show 0 ≤ R.1 - p.1 by omega)
    rw [Int.neg_mul] at *
    have : 0 ≤ (-v) * (p.1 - P.1) := by rw [Int.neg_mul]; omega
    have := nn_of_mul A (b := -v) (by rw [Int.mul_comm]; exact this)
    omega
  unfold sg ii
  by_cases hu : 0 < u <;> by_cases hw : 0 < w
  · have := vpos hu (by omega)
    rw [if_pos ⟨hu, this, hw⟩, if_pos (by omega), if_pos hu, if_neg (by omega), if_neg (by omega)]; rfl
  · by_cases hw0 : w = 0
    · have := vpos hu (by omega)
      rw [if_neg (by omega), if_pos ⟨by omega, by omega, by omega⟩, if_pos (by omega), if_pos hu, if_pos (by omega), if_neg (by omega)]; rfl
    · rw [if_neg (by omega), if_neg (by omega), if_pos (by omega), if_pos hu, if_pos (by omega), if_pos (by omega)]; rfl
  · by_cases hu0 : u = 0
    · have := vnn (by omega) (by omega)
      rw [if_neg (by omega), if_pos ⟨by omega, by omega, by omega⟩, if_pos (by omega), if_neg (by omega), if_neg (by omega), if_neg (by omega)]; rfl
    · rw [if_neg (by omega), if_neg (by omega), if_neg (by omega), if_neg (by omega), if_neg (by omega), if_neg (by omega)]; rfl
  · exact absurd ⟨by omega, by omega⟩ both
theorem mid2 (ha : 0 < trn P Q R) {p : Pt} (hx1 : P.1 < p.1) (hx2 : p.1 < R.1) (hx3 : Q.1 ≤ p.1) : t3 P Q R p = sg (trn Q R p) - sg (- trn R P p) := by
  have b := bary P Q R p
  have s := bsum P Q R p
  unfold t3
  generalize trn P Q p = v at *
  generalize trn Q R p = u at *
  generalize trn R P p = w at *
  have e : v * (R.1 - p.1) = w * (p.1 - Q.1) + u * (p.1 - P.1) := by grind
  have A : 0 < R.1 - p.1 := by omega
  have vnn : 0 ≤ u → 0 ≤ w → 0 ≤ v := fun a c => by
    have := Int.mul_nonneg c (show 0 ≤ p.1 - Q.1 by omega)
    have := Int.mul_nonneg a (show 0 ≤ p.1 - P.1 by omega)
    exact nn_of_mul A (by rw [Int.mul_comm]; omega)
  have vpos : 0 < u → 0 ≤ w → 0 < v := fun a c => by
    have := Int.mul_nonneg c (show 0 ≤ p.1 - Q.1 by omega)
    have := Int.mul_pos a (show 0 < p.1 - P.1 by omega)
    exact pos_of_mul A (by rw [Int.mul_comm]; omega)
  have both : ¬ (u ≤ 0 ∧ w ≤ 0) := by
    rintro ⟨a, c⟩
    have := Int.mul_nonneg (show 0 ≤ -w by omega) (show 0 ≤ p.1 - Q.1 by omega)
    have := Int.mul_nonneg (show 0 ≤ -u by omega) (show 0 ≤ p.1 - P.1 by omega)
    rw [Int.neg_mul] at *
    have : 0 ≤ (-v) * (R.1 - p.1) := by rw [Int.neg_mul]; omega
    have := nn_of_mul A (b := -v) (by rw [Int.mul_comm]; exact this)
    omega
  unfold sg ii
  by_cases hu : 0 < u <;> by_cases hw : 0 < w
  · have := vpos hu (by omega)
    rw [if_pos ⟨this, hu, hw⟩, if_pos (by omega), if_pos hu, if_neg (by omega), if_neg (by omega)]; rfl
  · by_cases hw0 : w = 0
    · have := vpos hu (by omega)
      rw [if_neg (by omega), if_pos ⟨by omega, by omega, by omega⟩, if_pos (by omega), if_pos hu, if_pos (by omega), if_neg (by omega)]; rfl
    · rw [if_neg (by omega), if_neg (by omega), if_pos (by omega), if_pos hu, if_pos (by omega), if_pos (by omega)]; rfl
  · by_cases hu0 : u = 0
    · have := vnn (by omega) (by omega)
      rw [if_neg (by omega), if_pos ⟨by omega, by omega, by omega⟩, if_pos (by omega), if_neg (by omega), if_neg (by omega), if_neg (by omega)]; rfl
    · rw [if_neg (by omega), if_neg (by omega), if_neg (by omega), if_neg (by omega), if_neg (by omega), if_neg (by omega)]; rfl
  · exact absurd ⟨by omega, by omega⟩ both
end
theorem nb {A B d t : Int} (hA : 0 ≤ A ∧ A ≤ 40) (hB : 0 ≤ B ∧ B ≤ 40) (ht : 0 ≤ t ∧ t ≤ d) : 0 ≤ A * (d - t) + B * t ∧ A * (d - t) + B * t ≤ 40 * d := by
  have a1 := Int.mul_nonneg hA.1 (show 0 ≤ d - t by omega)
  have a2 := Int.mul_nonneg hB.1 ht.1
  have a3 := Int.mul_nonneg (show 0 ≤ 40 - A by omega) (show 0 ≤ d - t by omega)
  have a4 := Int.mul_nonneg (show 0 ≤ 40 - B by omega) ht.1
  rw [Int.sub_mul] at a3 a4
  omega
/-- How many of the numbers up to 40 are within bounds. -/
theorem cnt_in {u v : Int} (h0 : 0 ≤ u) (h1 : u ≤ v) (h2 : v ≤ 40) : rs (fun y => ii (u ≤ (y : Int) ∧ (y : Int) ≤ v)) 41 = v - u + 1 := by
  have e : rs (fun y => ii (u ≤ (y : Int) ∧ (y : Int) ≤ v)) 41 = rs (fun y => ii (u ≤ (y : Int)) - ii (v + 1 ≤ (y : Int))) 41 := rs_congr fun y _ => by
    unfold ii
    repeat' split
    all_goals omega
  rw [e, rs_sub (fun y => ii (u ≤ (y : Int))) (fun y => ii (v + 1 ≤ (y : Int))), cnt_ge _ h0 41 (by omega), cnt_ge _ (by omega) 41 (by omega)]
  omega
end Go.Proofs.Ytojciffnkbfbhaa.Am
