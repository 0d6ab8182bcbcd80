import Derived.Test.YtojciffnkbfbhaaME
/-
  Plain laws: places counted by columns; the triangle.
-/
namespace Go.Proofs.Ytojciffnkbfbhaa.Am
set_option linter.unusedSimpArgs false
set_option linter.unusedVariables false
/-! ### Sums -/
theorem rs_neg (f : Nat → Int) (n : Nat) : rs (fun t => - f t) n = - rs f n := by
  induction n with
  | zero => rfl
  | succ n ih => rw [rs_succ, rs_succ, ih]; omega
theorem rs_sub (f g : Nat → Int) (n : Nat) : rs (fun t => f t - g t) n = rs f n - rs g n := by
  induction n with
  | zero => rfl
  | succ n ih => rw [rs_succ, rs_succ, rs_succ, ih]; omega
theorem rs_const (c : Int) (n : Nat) : rs (fun _ => c) n = c * n := by
  induction n with
  | zero => rw [rs_zero]; simp
  | succ n ih => rw [rs_succ, ih, ns, Int.mul_add]; omega
theorem rs_z {f : Nat → Int} {n : Nat} (h : ∀ t, t < n → f t = 0) : rs f n = 0 := by
  rw [rs_congr h, rs_const]; simp
theorem rs_front (f : Nat → Int) (n : Nat) : rs f (n + 1) = f 0 + rs (fun t => f (t + 1)) n := by
  have := rs_add f 1 n
  rw [Nat.add_comm 1 n] at this
  rw [this, rs_succ, rs_zero]
  have e : rs (fun t => f (1 + t)) n = rs (fun t => f (t + 1)) n := rs_congr fun t _ => by rw [Nat.add_comm]
  rw [e]; omega
theorem rs_rev (f : Nat → Int) (n : Nat) : rs (fun t => f (n - t)) (n + 1) = rs f (n + 1) := by
  induction n with
  | zero => rfl
  | succ n ih =>
    rw [rs_front, rs_succ f]
    have e : rs (fun t => f (n + 1 - (t + 1))) (n + 1) = rs (fun t => f (n - t)) (n + 1) := rs_congr fun t _ => by congr 1; omega
    rw [e, ih, Nat.sub_zero]; omega
def ii (p : Prop) [Decidable p] : Int := if p then 1 else 0
theorem ii_t {p : Prop} [Decidable p] (h : p) : ii p = 1 := if_pos h
theorem ii_f {p : Prop} [Decidable p] (h : ¬ p) : ii p = 0 := if_neg h
theorem ii_congr {p q : Prop} [Decidable p] [Decidable q] (h : p ↔ q) : ii p = ii q := by
  by_cases hp : p
  · rw [ii_t hp, ii_t (h.1 hp)]
  · rw [ii_f hp, ii_f (fun k => hp (h.2 k))]
/-- How many numbers below n are at least c. -/
theorem cnt_ge (c : Int) (h0 : 0 ≤ c) : ∀ n : Nat, c ≤ n → rs (fun y => ii (c ≤ (y : Int))) n = n - c
  | 0, h => by rw [rs_zero]; omega
  | n + 1, h => by
    rw [rs_succ]
    by_cases hc : c ≤ n
    · rw [cnt_ge c h0 n hc, ii_t hc]; omega
    · rw [ii_f hc, rs_z (fun t ht => ii_f (by omega))]; omega
/-! ### Numbers below a line -/
def kk (N d : Int) : Int := N / d - (-N) / d
def sg (t : Int) : Int := ii (0 ≤ t) + ii (0 < t)
theorem kk_rev {d : Int} (hd : 0 < d) (N H : Int) : kk (H * d - N) d = 2 * H - kk N d := by
  unfold kk
  have e1 : (H * d - N) / d = H + (-N) / d := by
    rw [show H * d - N = -N + H * d by omega, Int.add_mul_ediv_right _ _ (by omega)]; omega
  have e2 : (-(H * d - N)) / d = N / d - H := by
    rw [show -(H * d - N) = N + (-H) * d by rw [Int.neg_mul]; omega, Int.add_mul_ediv_right _ _ (by omega)]; omega
  rw [e1, e2]; omega
theorem col_sum {N d : Int} (hd : 0 < d) (h0 : 0 ≤ N) (h1 : N ≤ 40 * d) : rs (fun y => sg (d * (y : Int) - N)) 41 = 81 - kk N d := by
  have a0 : 0 ≤ N / d := Int.ediv_nonneg h0 (by omega)
  have a1 : N / d ≤ 40 := Int.ediv_le_of_le_mul hd h1
  have b1 : (-N) / d ≤ 0 := by
    have := Int.ediv_le_of_le_mul (a := -N) (b := 0) (c := d) hd (by omega)
    exact this
  have b0 : -40 ≤ (-N) / d := Int.le_ediv_of_mul_le hd (by omega)
  have e : rs (fun y => sg (d * (y : Int) - N)) 41 = rs (fun y => ii (-((-N) / d) ≤ (y : Int)) + ii (N / d + 1 ≤ (y : Int))) 41 := rs_congr fun y _ => by
    unfold sg
    congr 1
    · refine ii_congr ?_
      have q := Int.le_ediv_iff_mul_le hd (a := -(y : Int)) (b := -N)
      rw [Int.neg_mul, Int.mul_comm (y : Int) d] at q
      omega
    · refine ii_congr ?_
      have q := Int.ediv_lt_iff_lt_mul hd (a := N) (b := (y : Int))
      rw [Int.mul_comm (y : Int) d] at q
      omega
  rw [e, rs_plus (fun y => ii (-((-N) / d) ≤ (y : Int))) (fun y => ii (N / d + 1 ≤ (y : Int))), cnt_ge _ (by omega) 41 (by omega), cnt_ge _ (by omega) 41 (by omega)]
  unfold kk
  omega
/-- The columns below an edge. -/
theorem trap {d : Nat} (hd : 0 < d) (A B : Int) : rs (fun t => kk (A * ((d : Int) - t) + B * t) d) (d + 1) = (d + 1) * (A + B) := by
  have r := rs_rev (fun t => kk (A * ((d : Int) - t) + B * t) d) d
  have e : rs (fun t => kk (A * ((d : Int) - ((d - t : Nat) : Int)) + B * ((d - t : Nat) : Int)) d) (d + 1) = rs (fun t => 2 * (A + B) - kk (A * ((d : Int) - t) + B * t) d) (d + 1) := rs_congr fun t ht => by
    have : ((d - t : Nat) : Int) = d - t := by omega
    rw [this, ← kk_rev (by omega)]
    congr 1
    grind
  rw [e, rs_sub (fun _ => 2 * (A + B)), rs_const] at r
  have : 2 * rs (fun t => kk (A * ((d : Int) - t) + B * t) d) (d + 1) = 2 * ((d + 1) * (A + B)) := by
    rw [ns] at r
    have e3 : 2 * (A + B) * ((d : Int) + 1) = 2 * ((d + 1) * (A + B)) := by grind
    omega
  omega
theorem kk_int {d : Int} (hd : 0 < d) (A : Int) : kk (A * d) d = 2 * A := by
  unfold kk
  rw [Int.mul_ediv_cancel _ (by omega), ← Int.neg_mul, Int.mul_ediv_cancel _ (by omega)]; omega
/-! ### The triangle -/
def t3 (P Q R : Pt) (p : Pt) : Int := if 0 < trn P Q p ∧ 0 < trn Q R p ∧ 0 < trn R P p then 2 else if 0 ≤ trn P Q p ∧ 0 ≤ trn Q R p ∧ 0 ≤ trn R P p then 1 else 0
/-- The sum over the map. -/
def gsum (f : Pt → Int) : Int := rs (fun x => rs (fun y => f ((x : Int), (y : Int))) 41) 41
theorem bary (P Q R p : Pt) : trn Q R p * (P.1 - p.1) + trn R P p * (Q.1 - p.1) + trn P Q p * (R.1 - p.1) = 0 := by unfold trn; grind
theorem bsum (P Q R p : Pt) : trn Q R p + trn R P p + trn P Q p = trn P Q R := by unfold trn; grind
section
variable {P Q R : Pt} (hP : On P) (hQ : On Q) (hR : On R) (ha : 0 < trn P Q R) (h1 : P.1 ≤ Q.1) (h2 : Q.1 ≤ R.1)
theorem tri_lt (ha : 0 < trn P Q R) (h1 : P.1 ≤ Q.1) (h2 : Q.1 ≤ R.1) : P.1 < R.1 := by
  rcases Int.lt_or_le P.1 R.1 with h | h
  · exact h
  · exfalso
    have e1 : Q.1 - P.1 = 0 := by omega
    have e2 : R.1 - P.1 = 0 := by omega
    unfold trn at ha
    rw [e1, e2] at ha
    simp at ha
theorem col_out (ha : 0 < trn P Q R) (h1 : P.1 ≤ Q.1) (h2 : Q.1 ≤ R.1) {p : Pt} (hx : p.1 < P.1 ∨ R.1 < p.1) : t3 P Q R p = 0 := by
  have b := bary P Q R p
  have s := bsum P Q R p
  have no : ¬ (0 ≤ trn P Q p ∧ 0 ≤ trn Q R p ∧ 0 ≤ trn R P p) := by
    rintro ⟨a1, a2, a3⟩
    generalize trn P Q p = u at *
    generalize trn Q R p = v at *
    generalize trn R P p = w at *
    rcases hx with hx | hx
    · have c1 := Int.mul_nonneg a2 (show 0 ≤ P.1 - p.1 - 1 by omega)
      have c2 := Int.mul_nonneg a3 (show 0 ≤ Q.1 - p.1 - 1 by omega)
      have c3 := Int.mul_nonneg a1 (show 0 ≤ R.1 - p.1 - 1 by omega)
      rw [Int.mul_sub] at c1 c2 c3
      omega
    · have c1 := Int.mul_nonneg a2 (show 0 ≤ -(P.1 - p.1) - 1 by omega)
      have c2 := Int.mul_nonneg a3 (show 0 ≤ -(Q.1 - p.1) - 1 by omega)
      have c3 := Int.mul_nonneg a1 (show 0 ≤ -(R.1 - p.1) - 1 by omega)
      rw [Int.mul_sub, Int.mul_neg] at c1 c2 c3
      omega
  unfold t3
  rw [if_neg (fun h => no ⟨by omega, by omega, by omega⟩), if_neg no]
theorem mid1 (ha : 0 < trn P Q R) {p : Pt} (hx1 : P.1 < p.1) (hx2 : p.1 < R.1) (hx3 : p.1 ≤ Q.1) : t3 P Q R p = sg (trn P Q p) - sg (- trn R P p) := by
  have b := bary P Q R p
  have s := bsum P Q R p
  unfold t3
  generalize trn P Q p = u at *
  generalize trn Q R p = v at *
  generalize trn R P p = w at *
  have e : v * (p.1 - P.1) = w * (Q.1 - p.1) + u * (R.1 - p.1) := by grind
  have A : 0 < p.1 - P.1 := by omega
  have vnn : 0 ≤ u → 0 ≤ w → 0 ≤ v := fun a c => by
    have := Int.mul_nonneg c (show 0 ≤ Q.1 - p.1 by omega)
    have := Int.mul_nonneg a (show 0 ≤ R.1 - p.1 by omega)
    exact nn_of_mul A (by rw [Int.mul_comm]; omega)
  have vpos : 0 < u → 0 ≤ w → 0 < v := fun a c => by
    have := Int.mul_nonneg c (show 0 ≤ Q.1 - p.1 by omega)
    have := Int.mul_pos a (show 0 < R.1 - p.1 by omega)
    exact pos_of_mul A (by rw [Int.mul_comm]; omega)
  have both : ¬ (u ≤ 0 ∧ w ≤ 0) := by
    rintro ⟨a, c⟩
    have := Int.mul_nonneg (show 0 ≤ -w by omega) (show 0 ≤ Q.1 - p.1 by omega)
    have := Int.mul_nonneg (show 0 ≤ -u by omega) (show 0 ≤ R.1 - p.1 by omega)
    rw [Int.neg_mul] at *
    have : 0 ≤ (-v) * (p.1 - P.1) := by rw [Int.neg_mul]; omega
    have := nn_of_mul A (b := -v) (by rw [Int.mul_comm]; exact this)
    omega
  unfold sg ii
  by_cases hu : 0 < u <;> by_cases hw : 0 < w
  · have := vpos hu (by omega)
    rw [if_pos ⟨hu, this, hw⟩, if_pos (by omega), if_pos hu, if_neg (by omega), if_neg (by omega)]; rfl
  · by_cases hw0 : w = 0
    · have := vpos hu (by omega)
      rw [if_neg (by omega), if_pos ⟨by omega, by omega, by omega⟩, if_pos (by omega), if_pos hu, if_pos (by omega), if_neg (by omega)]; rfl
    · rw [if_neg (by omega), if_neg (by omega), if_pos (by omega), if_pos hu, if_pos (by omega), if_pos (by omega)]; rfl
  · by_cases hu0 : u = 0
    · have := vnn (by omega) (by omega)
      rw [if_neg (by omega), if_pos ⟨by omega, by omega, by omega⟩, if_pos (by omega), if_neg (by omega), if_neg (by omega), if_neg (by omega)]; rfl
    · rw [if_neg (by omega), if_neg (by omega), if_neg (by omega), if_neg (by omega), if_neg (by omega), if_neg (by omega)]; rfl
  · exact absurd ⟨by omega, by omega⟩ both
theorem mid2 (ha : 0 < trn P Q R) {p : Pt} (hx1 : P.1 < p.1) (hx2 : p.1 < R.1) (hx3 : Q.1 ≤ p.1) : t3 P Q R p = sg (trn Q R p) - sg (- trn R P p) := by
  have b := bary P Q R p
  have s := bsum P Q R p
  unfold t3
  generalize trn P Q p = v at *
  generalize trn Q R p = u at *
  generalize trn R P p = w at *
  have e : v * (R.1 - p.1) = w * (p.1 - Q.1) + u * (p.1 - P.1) := by grind
  have A : 0 < R.1 - p.1 := by omega
  have vnn : 0 ≤ u → 0 ≤ w → 0 ≤ v := fun a c => by
    have := Int.mul_nonneg c (show 0 ≤ p.1 - Q.1 by omega)
    have := Int.mul_nonneg a (show 0 ≤ p.1 - P.1 by omega)
    exact nn_of_mul A (by rw [Int.mul_comm]; omega)
  have vpos : 0 < u → 0 ≤ w → 0 < v := fun a c => by
    have := Int.mul_nonneg c (show 0 ≤ p.1 - Q.1 by omega)
    have := Int.mul_pos a (show 0 < p.1 - P.1 by omega)
    exact pos_of_mul A (by rw [Int.mul_comm]; omega)
  have both : ¬ (u ≤ 0 ∧ w ≤ 0) := by
    rintro ⟨a, c⟩
    have := Int.mul_nonneg (show 0 ≤ -w by omega) (show 0 ≤ p.1 - Q.1 by omega)
    have := Int.mul_nonneg (show 0 ≤ -u by omega) (show 0 ≤ p.1 - P.1 by omega)
    rw [Int.neg_mul] at *
    have : 0 ≤ (-v) * (R.1 - p.1) := by rw [Int.neg_mul]; omega
    have := nn_of_mul A (b := -v) (by rw [Int.mul_comm]; exact this)
    omega
  unfold sg ii
  by_cases hu : 0 < u <;> by_cases hw : 0 < w
  · have := vpos hu (by omega)
    rw [if_pos ⟨this, hu, hw⟩, if_pos (by omega), if_pos hu, if_neg (by omega), if_neg (by omega)]; rfl
  · by_cases hw0 : w = 0
    · have := vpos hu (by omega)
      rw [if_neg (by omega), if_pos ⟨by omega, by omega, by omega⟩, if_pos (by omega), if_pos hu, if_pos (by omega), if_neg (by omega)]; rfl
    · rw [if_neg (by omega), if_neg (by omega), if_pos (by omega), if_pos hu, if_pos (by omega), if_pos (by omega)]; rfl
  · by_cases hu0 : u = 0
    · have := vnn (by omega) (by omega)
      rw [if_neg (by omega), if_pos ⟨by omega, by omega, by omega⟩, if_pos (by omega), if_neg (by omega), if_neg (by omega), if_neg (by omega)]; rfl
    · rw [if_neg (by omega), if_neg (by omega), if_neg (by omega), if_neg (by omega), if_neg (by omega), if_neg (by omega)]; rfl
  · exact absurd ⟨by omega, by omega⟩ both
end
theorem nb {A B d t : Int} (hA : 0 ≤ A ∧ A ≤ 40) (hB : 0 ≤ B ∧ B ≤ 40) (ht : 0 ≤ t ∧ t ≤ d) : 0 ≤ A * (d - t) + B * t ∧ A * (d - t) + B * t ≤ 40 * d := by
  have a1 := Int.mul_nonneg hA.1 (show 0 ≤ d - t by omega)
  have a2 := Int.mul_nonneg hB.1 ht.1
  have a3 := Int.mul_nonneg (show 0 ≤ 40 - A by omega) (show 0 ≤ d - t by omega)
  have a4 := Int.mul_nonneg (show 0 ≤ 40 - B by omega) ht.1
  rw [Int.sub_mul] at a3 a4
  omega
/-- How many of the numbers up to 40 are within bounds. -/
theorem cnt_in {u v : Int} (h0 : 0 ≤ u) (h1 : u ≤ v) (h2 : v ≤ 40) : rs (fun y => ii (u ≤ (y : Int) ∧ (y : Int) ≤ v)) 41 = v - u + 1 := by
  have e : rs (fun y => ii (u ≤ (y : Int) ∧ (y : Int) ≤ v)) 41 = rs (fun y => ii (u ≤ (y : Int)) - ii (v + 1 ≤ (y : Int))) 41 := rs_congr fun y _ => by
    unfold ii
    repeat' split
    all_goals omega
  rw [e, rs_sub (fun y => ii (u ≤ (y : Int))) (fun y => ii (v + 1 ≤ (y : Int))), cnt_ge _ h0 41 (by omega), cnt_ge _ (by omega) 41 (by omega)]
  omega
end Go.Proofs.Ytojciffnkbfbhaa.Am
/-
  Plain laws: the places of a triangle.
-/
namespace Go.Proofs.Ytojciffnkbfbhaa.Am
set_option linter.unusedSimpArgs false
set_option linter.unusedVariables false
section
variable {a d1 d2 : Nat} {p q r : Int}
def tP (a : Nat) (p : Int) : Pt := ((a : Int), p)
def cw (a d1 d2 : Nat) (p q r : Int) (x : Nat) : Int := rs (fun y => t3 (tP a p) (tP (a + d1) q) (tP (a + d1 + d2) r) ((x : Int), (y : Int))) 41
def cu (d : Nat) (A B : Int) (t : Nat) : Int := kk (A * ((d : Int) - t) + B * t) d
theorem cu_0 {d : Nat} (hd : 0 < d) (A B : Int) : cu d A B 0 = 2 * A := by
  unfold cu
  rw [show A * ((d : Int) - (0 : Nat)) + B * (0 : Nat) = A * d by simp, kk_int (by omega)]
theorem cu_d {d : Nat} (hd : 0 < d) (A B : Int) : cu d A B d = 2 * B := by
  unfold cu
  rw [show A * ((d : Int) - d) + B * d = B * d by simp, kk_int (by omega)]
theorem cu_sum {d : Nat} (hd : 0 < d) (A B : Int) : rs (cu d A B) (d + 1) = (d + 1) * (A + B) := trap hd A B
theorem cu_in {d : Nat} (hd : 0 < d) (A B : Int) : rs (fun t => cu d A B (t + 1)) (d - 1) = (d + 1) * (A + B) - 2 * A - 2 * B := by
  have h := cu_sum hd A B
  rw [rs_front, cu_0 hd] at h
  obtain ⟨e, rfl⟩ : ∃ e, d = e + 1 := ⟨d - 1, by omega⟩
  rw [rs_succ (fun t => cu (e + 1) A B (t + 1)), cu_d hd] at h
  rw [Nat.add_sub_cancel]
  omega
theorem cu_in1 {d : Nat} (hd : 0 < d) (A B : Int) : rs (fun t => cu d A B (t + 1)) d = (d + 1) * (A + B) - 2 * A := by
  have h := cu_sum hd A B
  rw [rs_front, cu_0 hd] at h
  omega
variable (hp : 0 ≤ p ∧ p ≤ 40) (hq : 0 ≤ q ∧ q ≤ 40) (hr : 0 ≤ r ∧ r ≤ 40) (hA : a + d1 + d2 ≤ 40) (ha : 0 < trn (tP a p) (tP (a + d1) q) (tP (a + d1 + d2) r))
theorem col1 (hp : 0 ≤ p ∧ p ≤ 40) (hq : 0 ≤ q ∧ q ≤ 40) (hr : 0 ≤ r ∧ r ≤ 40) (ha : 0 < trn (tP a p) (tP (a + d1) q) (tP (a + d1 + d2) r)) {t : Nat} (h0 : 0 < t) (h1 : t ≤ d1) (h2 : t < d1 + d2) : cw a d1 d2 p q r (a + t) = cu (d1 + d2) p r t - cu d1 p q t := by
  unfold cw
  have e : rs (fun y => t3 (tP a p) (tP (a + d1) q) (tP (a + d1 + d2) r) (((a + t : Nat) : Int), (y : Int))) 41 = rs (fun y => sg ((d1 : Int) * (y : Int) - (p * ((d1 : Int) - t) + q * t)) - sg (((d1 + d2 : Nat) : Int) * (y : Int) - (p * (((d1 + d2 : Nat) : Int) - t) + r * t))) 41 := rs_congr fun y _ => by
    rw [mid1 ha (by unfold tP; simp only; omega) (by unfold tP; simp only; omega) (by unfold tP; simp only; omega)]
    congr 2
    · unfold trn tP; simp only [Int.natCast_add]; grind
    · unfold trn tP; simp only [Int.natCast_add]; grind
  have b1 := nb hp hq (d := (d1 : Int)) (t := (t : Int)) (by omega)
  have b2 := nb hp hr (d := ((d1 + d2 : Nat) : Int)) (t := (t : Int)) (by omega)
  rw [e, rs_sub (fun y => sg ((d1 : Int) * (y : Int) - (p * ((d1 : Int) - t) + q * t))), col_sum (by omega) b1.1 b1.2, col_sum (by omega) b2.1 b2.2]
  unfold cu
  omega
theorem col2 (hp : 0 ≤ p ∧ p ≤ 40) (hq : 0 ≤ q ∧ q ≤ 40) (hr : 0 ≤ r ∧ r ≤ 40) (ha : 0 < trn (tP a p) (tP (a + d1) q) (tP (a + d1 + d2) r)) {t : Nat} (h0 : 0 < d1 + t) (h1 : t < d2) : cw a d1 d2 p q r (a + (d1 + t)) = cu (d1 + d2) p r (d1 + t) - cu d2 q r t := by
  unfold cw
  have e : rs (fun y => t3 (tP a p) (tP (a + d1) q) (tP (a + d1 + d2) r) (((a + (d1 + t) : Nat) : Int), (y : Int))) 41 = rs (fun y => sg ((d2 : Int) * (y : Int) - (q * ((d2 : Int) - t) + r * t)) - sg (((d1 + d2 : Nat) : Int) * (y : Int) - (p * (((d1 + d2 : Nat) : Int) - ((d1 + t : Nat) : Int)) + r * ((d1 + t : Nat) : Int)))) 41 := rs_congr fun y _ => by
    rw [mid2 ha (by unfold tP; simp only; omega) (by unfold tP; simp only; omega) (by unfold tP; simp only; omega)]
    congr 2
    · unfold trn tP; simp only [Int.natCast_add]; grind
    · unfold trn tP; simp only [Int.natCast_add]; grind
  have b1 := nb hq hr (d := (d2 : Int)) (t := (t : Int)) (by omega)
  have b2 := nb hp hr (d := ((d1 + d2 : Nat) : Int)) (t := ((d1 + t : Nat) : Int)) (by omega)
  rw [e, rs_sub (fun y => sg ((d2 : Int) * (y : Int) - (q * ((d2 : Int) - t) + r * t))), col_sum (by omega) b1.1 b1.2, col_sum (by omega) b2.1 b2.2]
  unfold cu
  omega
theorem t3_line {P Q R x : Pt} {u v : Int} (y : Int) (hno : ¬ (0 < trn P Q x ∧ 0 < trn Q R x ∧ 0 < trn R P x)) (hcl : (0 ≤ trn P Q x ∧ 0 ≤ trn Q R x ∧ 0 ≤ trn R P x) ↔ (u ≤ y ∧ y ≤ v)) : t3 P Q R x = ii (u ≤ y ∧ y ≤ v) := by
  unfold t3
  rw [if_neg hno]
  by_cases h : u ≤ y ∧ y ≤ v
  · rw [if_pos (hcl.2 h), ii_t h]
  · rw [if_neg (fun q => h (hcl.1 q)), ii_f h]
theorem mul_nn_iff {d x : Int} (hd : 0 < d) : 0 ≤ d * x ↔ 0 ≤ x := ⟨nn_of_mul hd, Int.mul_nonneg (Int.le_of_lt hd)⟩
theorem mul_pos_iff {d x : Int} (hd : 0 < d) : 0 < d * x ↔ 0 < x := ⟨pos_of_mul hd, Int.mul_pos hd⟩
theorem colL1 (hp : 0 ≤ p ∧ p ≤ 40) (ha : 0 < trn (tP a p) (tP (a + d1) q) (tP (a + d1 + d2) r)) (h1 : 0 < d1) : cw a d1 d2 p q r a = 1 := by
  unfold cw
  have e : rs (fun y => t3 (tP a p) (tP (a + d1) q) (tP (a + d1 + d2) r) (((a : Nat) : Int), (y : Int))) 41 = rs (fun y => ii (p ≤ (y : Int) ∧ (y : Int) ≤ p)) 41 := rs_congr fun y _ => by
    have c1 : trn (tP a p) (tP (a + d1) q) ((a : Int), (y : Int)) = (d1 : Int) * ((y : Int) - p) := by unfold trn tP; simp only [Int.natCast_add]; grind
    have c3 : trn (tP (a + d1 + d2) r) (tP a p) ((a : Int), (y : Int)) = ((d1 : Int) + d2) * (p - (y : Int)) := by unfold trn tP; simp only [Int.natCast_add]; grind
    have s := bsum (tP a p) (tP (a + d1) q) (tP (a + d1 + d2) r) ((a : Int), (y : Int))
    refine t3_line (y : Int) ?_ ?_
    · rw [c1, c3, mul_pos_iff (by omega), mul_pos_iff (by omega)]; omega
    · rw [c1, c3, mul_nn_iff (by omega), mul_nn_iff (by omega)]
      constructor
      · omega
      · intro h
        have : (y : Int) = p := by omega
        rw [c1, c3, this, Int.sub_self, Int.mul_zero, Int.mul_zero] at s
        rw [this]
        omega
  rw [e, cnt_in hp.1 (Int.le_refl _) hp.2]
  omega
theorem colL0 (hp : 0 ≤ p ∧ p ≤ 40) (hq : 0 ≤ q ∧ q ≤ 40) (ha : 0 < trn (tP a p) (tP (a + 0) q) (tP (a + 0 + d2) r)) (h2 : 0 < d2) : q < p ∧ cw a 0 d2 p q r a = p - q + 1 := by
  have c0 : trn (tP a p) (tP (a + 0) q) (tP (a + 0 + d2) r) = (d2 : Int) * (p - q) := by unfold trn tP; simp only [Int.natCast_add]; grind
  rw [c0, mul_pos_iff (by omega)] at ha
  refine ⟨by omega, ?_⟩
  unfold cw
  have e : rs (fun y => t3 (tP a p) (tP (a + 0) q) (tP (a + 0 + d2) r) (((a : Nat) : Int), (y : Int))) 41 = rs (fun y => ii (q ≤ (y : Int) ∧ (y : Int) ≤ p)) 41 := rs_congr fun y _ => by
    have c1 : trn (tP a p) (tP (a + 0) q) ((a : Int), (y : Int)) = 0 := by unfold trn tP; simp only [Int.natCast_add]; grind
    have c2 : trn (tP (a + 0) q) (tP (a + 0 + d2) r) ((a : Int), (y : Int)) = (d2 : Int) * ((y : Int) - q) := by unfold trn tP; simp only [Int.natCast_add]; grind
    have c3 : trn (tP (a + 0 + d2) r) (tP a p) ((a : Int), (y : Int)) = (d2 : Int) * (p - (y : Int)) := by unfold trn tP; simp only [Int.natCast_add]; grind
    refine t3_line (y : Int) ?_ ?_
    · rw [c1]; omega
    · rw [c1, c2, c3, mul_nn_iff (by omega), mul_nn_iff (by omega)]; omega
  rw [e, cnt_in hq.1 (by omega) hp.2]
theorem colR1 (hr : 0 ≤ r ∧ r ≤ 40) (ha : 0 < trn (tP a p) (tP (a + d1) q) (tP (a + d1 + d2) r)) (h2 : 0 < d2) : cw a d1 d2 p q r (a + (d1 + d2)) = 1 := by
  unfold cw
  have e : rs (fun y => t3 (tP a p) (tP (a + d1) q) (tP (a + d1 + d2) r) (((a + (d1 + d2) : Nat) : Int), (y : Int))) 41 = rs (fun y => ii (r ≤ (y : Int) ∧ (y : Int) ≤ r)) 41 := rs_congr fun y _ => by
    have c1 : trn (tP (a + d1) q) (tP (a + d1 + d2) r) (((a + (d1 + d2) : Nat) : Int), (y : Int)) = (d2 : Int) * ((y : Int) - r) := by unfold trn tP; simp only [Int.natCast_add]; grind
    have c3 : trn (tP (a + d1 + d2) r) (tP a p) (((a + (d1 + d2) : Nat) : Int), (y : Int)) = ((d1 : Int) + d2) * (r - (y : Int)) := by unfold trn tP; simp only [Int.natCast_add]; grind
    have s := bsum (tP a p) (tP (a + d1) q) (tP (a + d1 + d2) r) (((a + (d1 + d2) : Nat) : Int), (y : Int))
    refine t3_line (y : Int) ?_ ?_
    · rw [c1, c3, mul_pos_iff (by omega), mul_pos_iff (by omega)]; omega
    · rw [c1, c3, mul_nn_iff (by omega), mul_nn_iff (by omega)]
      constructor
      · omega
      · intro h
        have : (y : Int) = r := by omega
        rw [c1, c3, this, Int.sub_self, Int.mul_zero, Int.mul_zero] at s
        rw [this]
        omega
  rw [e, cnt_in hr.1 (Int.le_refl _) hr.2]
  omega
theorem colR0 (hr : 0 ≤ r ∧ r ≤ 40) (hq : 0 ≤ q ∧ q ≤ 40) (ha : 0 < trn (tP a p) (tP (a + d1) q) (tP (a + d1 + 0) r)) (h1 : 0 < d1) : q < r ∧ cw a d1 0 p q r (a + (d1 + 0)) = r - q + 1 := by
  have c0 : trn (tP a p) (tP (a + d1) q) (tP (a + d1 + 0) r) = (d1 : Int) * (r - q) := by unfold trn tP; simp only [Int.natCast_add]; grind
  rw [c0, mul_pos_iff (by omega)] at ha
  refine ⟨by omega, ?_⟩
  unfold cw
  have e : rs (fun y => t3 (tP a p) (tP (a + d1) q) (tP (a + d1 + 0) r) (((a + (d1 + 0) : Nat) : Int), (y : Int))) 41 = rs (fun y => ii (q ≤ (y : Int) ∧ (y : Int) ≤ r)) 41 := rs_congr fun y _ => by
    have c1 : trn (tP a p) (tP (a + d1) q) (((a + (d1 + 0) : Nat) : Int), (y : Int)) = (d1 : Int) * ((y : Int) - q) := by unfold trn tP; simp only [Int.natCast_add]; grind
    have c2 : trn (tP (a + d1) q) (tP (a + d1 + 0) r) (((a + (d1 + 0) : Nat) : Int), (y : Int)) = 0 := by unfold trn tP; simp only [Int.natCast_add]; grind
    have c3 : trn (tP (a + d1 + 0) r) (tP a p) (((a + (d1 + 0) : Nat) : Int), (y : Int)) = (d1 : Int) * (r - (y : Int)) := by unfold trn tP; simp only [Int.natCast_add]; grind
    refine t3_line (y : Int) ?_ ?_
    · rw [c2]; omega
    · rw [c1, c2, c3, mul_nn_iff (by omega), mul_nn_iff (by omega)]; omega
  rw [e, cnt_in hq.1 (by omega) hr.2]
/-- Pick's theorem for a triangle whose second corner is between the other ones. -/
theorem tri_pick (hp : 0 ≤ p ∧ p ≤ 40) (hq : 0 ≤ q ∧ q ≤ 40) (hr : 0 ≤ r ∧ r ≤ 40) (hA : a + d1 + d2 ≤ 40) (ha : 0 < trn (tP a p) (tP (a + d1) q) (tP (a + d1 + d2) r)) :
    gsum (t3 (tP a p) (tP (a + d1) q) (tP (a + d1 + d2) r)) = trn (tP a p) (tP (a + d1) q) (tP (a + d1 + d2) r) + 2 := by
  have hd : 0 < d1 + d2 := by
    have := tri_lt ha (by unfold tP; simp only; omega) (by unfold tP; simp only; omega)
    unfold tP at this; simp only at this; omega
  have out : ∀ x, x < a ∨ a + d1 + d2 < x → cw a d1 d2 p q r x = 0 := fun x hx => rs_z fun y _ => col_out ha (by unfold tP; simp only; omega) (by unfold tP; simp only; omega) (by unfold tP; simp only; omega)
  have e0 : gsum (t3 (tP a p) (tP (a + d1) q) (tP (a + d1 + d2) r)) = rs (cw a d1 d2 p q r) 41 := rfl
  have e1 := rs_add (cw a d1 d2 p q r) (a + (d1 + d2 + 1)) (40 - (a + d1 + d2))
  rw [show a + (d1 + d2 + 1) + (40 - (a + d1 + d2)) = 41 by omega, rs_z (n := 40 - (a + d1 + d2)) (fun t ht => out _ (by omega)), rs_add _ a, rs_z (n := a) (fun t ht => out _ (by omega))] at e1
  obtain ⟨d, hd'⟩ : ∃ d, d1 + d2 = d + 1 := ⟨d1 + d2 - 1, by omega⟩
  have e2 : rs (fun t => cw a d1 d2 p q r (a + t)) (d1 + d2 + 1) = cw a d1 d2 p q r (a + 0) + rs (fun t => cw a d1 d2 p q r (a + (t + 1))) d + cw a d1 d2 p q r (a + (d1 + d2)) := by
    rw [rs_succ, hd', rs_front]
  rw [e2] at e1
  rw [e0, e1, Nat.add_zero a]
  have area : trn (tP a p) (tP (a + d1) q) (tP (a + d1 + d2) r) = ((d1 : Int) + d2) * (p + r) - d1 * (p + q) - d2 * (q + r) := by unfold trn tP; simp only [Int.natCast_add]; grind
  rw [area]
  have u1 := cu_in hd p r
  rw [hd', Nat.add_sub_cancel, ← hd'] at u1
  rcases Nat.eq_zero_or_pos d1 with z1 | z1
  · -- a vertical first edge
    subst z1
    rw [Nat.zero_add] at hd' hd u1
    obtain ⟨hqp, cL⟩ := colL0 (a := a) (d2 := d2) (p := p) (q := q) (r := r) hp hq ha hd
    have cR := colR1 (a := a) (d1 := 0) (d2 := d2) (p := p) (q := q) (r := r) hr ha hd
    have m : rs (fun t => cw a 0 d2 p q r (a + (t + 1))) d = rs (fun t => cu d2 p r (t + 1) - cu d2 q r (t + 1)) d := rs_congr fun t ht => by
      have := col2 (a := a) (d1 := 0) (d2 := d2) (p := p) (q := q) (r := r) (t := t + 1) hp hq hr ha (by omega) (by omega)
      simpa only [Nat.zero_add] using this
    have u2 := cu_in hd q r
    rw [hd', Nat.add_sub_cancel, ← hd'] at u2
    rw [cL, cR, m, rs_sub (fun t => cu d2 p r (t + 1)), u1, u2]
    simp only [Int.natCast_zero]
    grind
  rcases Nat.eq_zero_or_pos d2 with z2 | z2
  · subst z2
    rw [Nat.add_zero] at hd' hd u1
    have cL := colL1 (a := a) (d1 := d1) (d2 := 0) (p := p) (q := q) (r := r) hp ha z1
    obtain ⟨hqr, cR⟩ := colR0 (a := a) (d1 := d1) (p := p) (q := q) (r := r) hr hq ha z1
    have m : rs (fun t => cw a d1 0 p q r (a + (t + 1))) d = rs (fun t => cu d1 p r (t + 1) - cu d1 p q (t + 1)) d := rs_congr fun t ht => by
      have := col1 (a := a) (d1 := d1) (d2 := 0) (p := p) (q := q) (r := r) (t := t + 1) hp hq hr ha (by omega) (by omega) (by omega)
      simpa only [Nat.add_zero] using this
    have u2 := cu_in hd p q
    rw [hd', Nat.add_sub_cancel, ← hd'] at u2
    rw [cL, cR, m, rs_sub (fun t => cu d1 p r (t + 1)), u1, u2]
    simp only [Int.natCast_zero]
    grind
  have cL := colL1 (a := a) (d1 := d1) (d2 := d2) (p := p) (q := q) (r := r) hp ha z1
  have cR := colR1 (a := a) (d1 := d1) (d2 := d2) (p := p) (q := q) (r := r) hr ha z2
  have ed : d = d1 + (d2 - 1) := by omega
  have m : rs (fun t => cw a d1 d2 p q r (a + (t + 1))) d = rs (fun t => cu (d1 + d2) p r (t + 1)) d - rs (fun t => cu d1 p q (t + 1)) d1 - rs (fun t => cu d2 q r (t + 1)) (d2 - 1) := by
    rw [ed, rs_add _ d1, rs_add (fun t => cu (d1 + d2) p r (t + 1)) d1]
    have k1 : rs (fun t => cw a d1 d2 p q r (a + (t + 1))) d1 = rs (fun t => cu (d1 + d2) p r (t + 1) - cu d1 p q (t + 1)) d1 := rs_congr fun t ht => col1 hp hq hr ha (by omega) (by omega) (by omega)
    have k2 : rs (fun t => cw a d1 d2 p q r (a + (d1 + t + 1))) (d2 - 1) = rs (fun t => cu (d1 + d2) p r (d1 + t + 1) - cu d2 q r (t + 1)) (d2 - 1) := rs_congr fun t ht => by
      have := col2 (a := a) (d1 := d1) (d2 := d2) (p := p) (q := q) (r := r) (t := t + 1) hp hq hr ha (by omega) (by omega)
      exact this
    rw [k1, k2, rs_sub (fun t => cu (d1 + d2) p r (t + 1)), rs_sub (fun t => cu (d1 + d2) p r (d1 + t + 1))]
    omega
  rw [cL, cR, m, u1, cu_in1 z1, cu_in z2]
  simp only [Int.natCast_add]
  grind
end
end Go.Proofs.Ytojciffnkbfbhaa.Am
