import Derived.Test.YtojciffnkbfbhaaMJ
/-
  Plain laws: the places of a triangle.
-/
namespace Go.Proofs.Ytojciffnkbfbhaa.Am
set_option linter.unusedSimpArgs false
set_option linter.unusedVariables false
section
variable {a d1 d2 : Nat} {p q r : Int}
def tP (a : Nat) (p : Int) : Pt := ((a : Int), p)
def cw (a d1 d2 : Nat) (p q r : Int) (x : Nat) : Int := rs (fun y => t3 (tP a p) (tP (a + d1) q) (tP (a + d1 + d2) r) ((x : Int), (y : Int))) 41
def cu (d : Nat) (A B : Int) (t : Nat) : Int := kk (A * ((d : Int) - t) + B * t) d
theorem cu_0 {d : Nat} (hd : 0 < d) (A B : Int) : cu d A B 0 = 2 * A := by
  unfold cu
  rw [show A * ((d : Int) - (0 : Nat)) + B * (0 : Nat) = A * d by simp, kk_int (by omega)]
theorem cu_d {d : Nat} (hd : 0 < d) (A B : Int) : cu d A B d = 2 * B := by
  unfold cu
  rw [show A * ((d : Int) - d) + B * d = B * d by simp, kk_int (by omega)]
theorem cu_sum {d : Nat} (hd : 0 < d) (A B : Int) : rs (cu d A B) (d + 1) = (d + 1) * (A + B) := trap hd A B
theorem cu_in {d : Nat} (hd : 0 < d) (A B : Int) : rs (fun t => cu d A B (t + 1)) (d - 1) = (d + 1) * (A + B) - 2 * A - 2 * B := by
  have h := cu_sum hd A B
  rw [rs_front, cu_0 hd] at h
  obtain ⟨e, rfl⟩ : ∃ e, d = e + 1 := ⟨d - 1, by omega⟩
  rw [rs_succ (fun t => cu (e + 1) A B (t + 1)), cu_d hd] at h
  rw [Nat.add_sub_cancel]
  omega
theorem cu_in1 {d : Nat} (hd : 0 < d) (A B : Int) : rs (fun t => cu d A B (t + 1)) d = (d + 1) * (A + B) - 2 * A := by
  have h := cu_sum hd A B
  rw [rs_front, cu_0 hd] at h
  omega
variable (hp : 0 ≤ p ∧ p ≤ 40) (hq : 0 ≤ q ∧ q ≤ 40) (hr : 0 ≤ r ∧ r ≤ 40) (hA : a + d1 + d2 ≤ 40) (ha : 0 < trn (tP a p) (tP (a + d1) q) (tP (a + d1 + d2) r))
theorem col1 (hp : 0 ≤ p ∧ p ≤ 40) (hq : 0 ≤ q ∧ q ≤ 40) (hr : 0 ≤ r ∧ r ≤ 40) (ha : 0 < trn (tP a p) (tP (a + d1) q) (tP (a + d1 + d2) r)) {t : Nat} (h0 : 0 < t) (h1 : t ≤ d1) (h2 : t < d1 + d2) : cw a d1 d2 p q r (a + t) = cu (d1 + d2) p r t - cu d1 p q t := by
  unfold cw
  have e : rs (fun y => t3 (tP a p) (tP (a + d1) q) (tP (a + d1 + d2) r) (((a + t : Nat) : Int), (y : Int))) 41 = rs (fun y => sg ((d1 : Int) * (y : Int) - (p * ((d1 : Int) - t) + q * t)) - sg (((d1 + d2 : Nat) : Int) * (y : Int) - (p * (((d1 + d2 : Nat) : Int) - t) + r * t))) 41 := rs_congr fun y _ => by
    rw [mid1 ha (by unfold tP; simp only; omega) (by unfold tP; simp only; omega) (by unfold tP; simp only; omega)]
    congr 2
    · unfold trn tP; simp only [Int.natCast_add]; grind
    · unfold trn tP; simp only [Int.natCast_add]; grind
  have b1 := nb hp hq (d := (d1 : Int)) (t := (t : Int)) (by omega)
  have b2 := nb hp hr (d := ((d1 + d2 : Nat) : Int)) (t := (t : Int)) (by omega)
  rw [e, rs_sub (fun y => sg ((d1 : Int) * (y : Int) - (p * ((d1 : Int) - t) + q * t))), col_sum (by omega) b1.1 b1.2, col_sum (by omega) b2.1 b2.2]
  unfold cu
  omega
theorem col2 (hp : 0 ≤ p ∧ p ≤ 40) (hq : 0 ≤ q ∧ q ≤ 40) (hr : 0 ≤ r ∧ r ≤ 40) (ha : 0 < trn (tP a p) (tP (a + d1) q) (tP (a + d1 + d2) r)) {t : Nat} (h0 : 0 < d1 + t) (h1 : t < d2) : cw a d1 d2 p q r (a + (d1 + t)) = cu (d1 + d2) p r (d1 + t) - cu d2 q r t := by
  unfold cw
  have e : rs (fun y => t3 (tP a p) (tP (a + d1) q) (tP (a + d1 + d2) r) (((a + (d1 + t) : Nat) : Int), (y : Int))) 41 = rs (fun y => sg ((d2 : Int) * (y : Int) - (q * ((d2 : Int) - t) + r * t)) - sg (((d1 + d2 : Nat) : Int) * (y : Int) - (p * (((d1 + d2 : Nat) : Int) - ((d1 + t : Nat) : Int)) + r * ((d1 + t : Nat) : Int)))) 41 := rs_congr fun y _ => by
    rw [mid2 ha (by unfold tP; simp only; omega) (by unfold tP; simp only; omega) (by unfold tP; simp only; omega)]
    congr 2
    · unfold trn tP; simp only [Int.natCast_add]; grind
    · unfold trn tP; simp only [Int.natCast_add]; grind
  have b1 := nb hq hr (d := (d2 : Int)) (t := (t : Int)) (by omega)
  have b2 := nb hp hr (d := ((d1 + d2 : Nat) : Int)) (t := ((d1 + t : Nat) : Int)) (by omega)
  rw [e, rs_sub (fun y => sg ((d2 : Int) * (y : Int) - (q * ((d2 : Int) - t) + r * t))), col_sum (by omega) b1.1 b1.2, col_sum (by omega) b2.1 b2.2]
  unfold cu
  omega
theorem t3_line {P Q R x : Pt} {u v : Int} (y : Int) (hno : ¬ (0 < trn P Q x ∧ 0 < trn Q R x ∧ 0 < trn R P x)) (hcl : (0 ≤ trn P Q x ∧ 0 ≤ trn Q R x ∧ 0 ≤ trn R P x) ↔ (u ≤ y ∧ y ≤ v)) : t3 P Q R x = ii (u ≤ y ∧ y ≤ v) := by
  unfold t3
  rw [if_neg hno]
  by_cases h : u ≤ y ∧ y ≤ v
  · rw [if_pos (hcl.2 h), ii_t h]
  · rw [if_neg (fun q => h (hcl.1 q)), ii_f h]
theorem mul_nn_iff {d x : Int} (hd : 0 < d) : 0 ≤ d * x ↔ 0 ≤ x := ⟨nn_of_mul hd, Int.mul_nonneg (Int.le_of_lt hd)⟩
theorem mul_pos_iff {d x : Int} (hd : 0 < d) : 0 < d * x ↔ 0 < x := ⟨pos_of_mul hd, Int.mul_pos hd⟩
theorem colL1 (hp : 0 ≤ p ∧ p ≤ 40) (ha : 0 < trn (tP a p) (tP (a + d1) q) (tP (a + d1 + d2) r)) (h1 : 0 < d1) : cw a d1 d2 p q r a = 1 := by
  unfold cw
  have e : rs (fun y => t3 (tP a p) (tP (a + d1) q) (tP (a + d1 + d2) r) (((a : Nat) : Int), (y : Int))) 41 = rs (fun y => ii (p ≤ (y : Int) ∧ (y : Int) ≤ p)) 41 := rs_congr fun y _ => by
    have c1 : trn (tP a p) (tP (a + d1) q) ((a : Int), (y : Int)) = (d1 : Int) * ((y : Int) - p) := by unfold trn tP; simp only [Int.natCast_add]; grind
    have c3 : trn (tP (a + d1 + d2) r) (tP a p) ((a : Int), (y : Int)) = ((d1 : Int) + d2) * (p - (y : Int)) := by unfold trn tP; simp only [Int.natCast_add]; grind
    have s := bsum (tP a p) (tP (a + d1) q) (tP (a + d1 + d2) r) ((a : Int), (y : Int))
    refine t3_line (y : Int) ?_ ?_
    · rw [c1, c3, mul_pos_iff (by omega), mul_pos_iff (by omega)]; omega
    · rw [c1, c3, mul_nn_iff (by omega), mul_nn_iff (by omega)]
      constructor
      · omega
      · intro h
        have : (y : Int) = p := by omega
        rw [c1, c3, this, Int.sub_self, Int.mul_zero, Int.mul_zero] at s
        rw [this]
        omega
  rw [e, cnt_in hp.1 (Int.le_refl _) hp.2]
  omega
theorem colL0 (hp : 0 ≤ p ∧ p ≤ 40) (hq : 0 ≤ q ∧ q ≤ 40) (ha : 0 < trn (tP a p) (tP (a + 0) q) (tP (a + 0 + d2) r)) (h2 : 0 < d2) : q < p ∧ cw a 0 d2 p q r a = p - q + 1 := by
  have c0 : trn (tP a p) (tP (a + 0) q) (tP (a + 0 + d2) r) = (d2 : Int) * (p - q) := by unfold trn tP; simp only [Int.natCast_add]; grind
  rw [c0, mul_pos_iff (by omega)] at ha
  refine ⟨by omega, ?_⟩
  unfold cw
  have e : rs (fun y => t3 (tP a p) (tP (a + 0) q) (tP (a + 0 + d2) r) (((a : Nat) : Int), (y : Int))) 41 = rs (fun y => ii (q ≤ (y : Int) ∧ (y : Int) ≤ p)) 41 := rs_congr fun y _ => by
    have c1 : trn (tP a p) (tP (a + 0) q) ((a : Int), (y : Int)) = 0 := by unfold trn tP; simp only [Int.natCast_add]; grind
    have c2 : trn (tP (a + 0) q) (tP (a + 0 + d2) r) ((a : Int), (y : Int)) = (d2 : Int) * ((y : Int) - q) := by unfold trn tP; simp only [Int.natCast_add]; grind
    have c3 : trn (tP (a + 0 + d2) r) (tP a p) ((a : Int), (y : Int)) = (d2 : Int) * (p - (y : Int)) := by unfold trn tP; simp only [Int.natCast_add]; grind
    refine t3_line (y : Int) ?_ ?_
    · rw [c1]; omega
    · rw [c1, c2, c3, mul_nn_iff (by omega), mul_nn_iff (by omega)]; omega
  rw [e, cnt_in hq.1 (by omega) hp.2]
theorem colR1 (hr : 0 ≤ r ∧ r ≤ 40) (ha : 0 < trn (tP a p) (tP (a + d1) q) (tP (a + d1 + d2) r)) (h2 : 0 < d2) : cw a d1 d2 p q r (a + (d1 + d2)) = 1 := by
  unfold cw
  have e : rs (fun y => t3 (tP a p) (tP (a + d1) q) (tP (a + d1 + d2) r) (((a + (d1 + d2) : Nat) : Int), (y : Int))) 41 = rs (fun y => ii (r ≤ (y : Int) ∧ (y : Int) ≤ r)) 41 := rs_congr fun y _ => by
    have c1 : trn (tP (a + d1) q) (tP (a + d1 + d2) r) (((a + (d1 + d2) : Nat) : Int), (y : Int)) = (d2 : Int) * ((y : Int) - r) := by unfold trn tP; simp only [Int.natCast_add]; grind
    have c3 : trn (tP (a + d1 + d2) r) (tP a p) (((a + (d1 + d2) : Nat) : Int), (y : Int)) = ((d1 : Int) + d2) * (r - (y : Int)) := by unfold trn tP; simp only [Int.natCast_add]; grind
    have s := bsum (tP a p) (tP (a + d1) q) (tP (a + d1 + d2) r) (((a + (d1 + d2) : Nat) : Int), (y : Int))
    refine t3_line (y : Int) ?_ ?_
    · rw [c1, c3, mul_pos_iff (by omega), mul_pos_iff (by omega)]; omega
    · rw [c1, c3, mul_nn_iff (by omega), mul_nn_iff (by omega)]
      constructor
      · omega
      · intro h
        have : (y : Int) = r := by omega
        rw [c1, c3, this, Int.sub_self, Int.mul_zero, Int.mul_zero] at s
        rw [this]
        omega
  rw [e, cnt_in hr.1 (Int.le_refl _) hr.2]
  omega
theorem colR0 (hr : 0 ≤ r ∧ r ≤ 40) (hq : 0 ≤ q ∧ q ≤ 40) (ha : 0 < trn (tP a p) (tP (a + d1) q) (tP (a + d1 + 0) r)) (h1 : 0 < d1) : q < r ∧ cw a d1 0 p q r (a + (d1 + 0)) = r - q + 1 := by
  have c0 : trn (tP a p) (tP (a + d1) q) (tP (a + d1 + 0) r) = (d1 : Int) * (r - q) := by unfold trn tP; simp only [Int.natCast_add]; grind
  rw [c0, mul_pos_iff (by omega)] at ha
  refine ⟨by omega, ?_⟩
  unfold cw
  have e : rs (fun y => t3 (tP a p) (tP (a + d1) q) (tP (a + d1 + 0) r) (((a + (d1 + 0) : Nat) : Int), (y : Int))) 41 = rs (fun y => ii (q ≤ (y : Int) ∧ (y : Int) ≤ r)) 41 := rs_congr fun y _ => by
    have c1 : trn (tP a p) (tP (a + d1) q) (((a + (d1 + 0) : Nat) : Int), (y : Int)) = (d1 : Int) * ((y : Int) - q) := by unfold trn tP; simp only [Int.natCast_add]; grind
    have c2 : trn (tP (a + d1) q) (tP (a + d1 + 0) r) (((a + (d1 + 0) : Nat) : Int), (y : Int)) = 0 := by unfold trn tP; simp only [Int.natCast_add]; grind
    have c3 : trn (tP (a + d1 + 0) r) (tP a p) (((a + (d1 + 0) : Nat) : Int), (y : Int)) = (d1 : Int) * (r - (y : Int)) := by unfold trn tP; simp only [Int.natCast_add]; grind
    refine t3_line (y : Int) ?_ ?_
    · rw [c2]; omega
    · rw [c1, c2, c3, mul_nn_iff (by omega), mul_nn_iff (by omega)]; omega
  rw [e, cnt_in hq.1 (by omega) hr.2]
/-- Pick's theorem for a triangle whose second corner is between the other ones. -/
theorem tri_pick (hp : 0 ≤ p ∧ p ≤ 40) (hq : 0 ≤ q ∧ q ≤ 40) (hr : 0 ≤ r ∧ r ≤ 40) (hA : a + d1 + d2 ≤ 40) (ha : 0 < trn (tP a p) (tP (a + d1) q) (tP (a + d1 + d2) r)) :
    gsum (t3 (tP a p) (tP (a + d1) q) (tP (a + d1 + d2) r)) = trn (tP a p) (tP (a + d1) q) (tP (a + d1 + d2) r) + 2 := by
  have hd : 0 < d1 + d2 := by
    have := tri_lt ha (by unfold tP; simp only; omega) (by unfold tP; simp only; omega)
    unfold tP at this; simp only at this; omega
  have out : ∀ x, x < a ∨ a + d1 + d2 < x → cw a d1 d2 p q r x = 0 := fun x hx => rs_z fun y _ => col_out ha (by unfold tP; simp only; omega) (by unfold tP; simp only; omega) (by unfold tP; simp only; omega)
  have e0 : gsum (t3 (tP a p) (tP (a + d1) q) (tP (a + d1 + d2) r)) = rs (cw a d1 d2 p q r) 41 := rfl
  have e1 := rs_add (cw a d1 d2 p q r) (a + (d1 + d2 + 1)) (40 - (a + d1 + d2))
  rw [show a + (d1 + d2 + 1) + (40 - (a + d1 + d2)) = 41 by omega, rs_z (n := 40 - (a + d1 + d2)) (fun t ht => out _ (by omega)), rs_add _ a, rs_z (n := a) (fun t ht => out _ (by omega))] at e1
  obtain ⟨d, hd'⟩ : ∃ d, d1 + d2 = d + 1 := ⟨d1 + d2 - 1, by omega⟩
  have e2 : rs (fun t => cw a d1 d2 p q r (a + t)) (d1 + d2 + 1) = cw a d1 d2 p q r (a + 0) + rs (fun t => cw a d1 d2 p q r (a + (t + 1))) d + cw a d1 d2 p q r (a + (d1 + d2)) := by
    rw [rs_succ, hd', rs_front]
  rw [e2] at e1
  rw [e0, e1, Nat.add_zero a]
  have area : trn (tP a p) (tP (a + d1) q) (tP (a + d1 + d2) r) = ((d1 : Int) + d2) * (p + r) - d1 * (p + q) - d2 * (q + r) := by unfold trn tP; simp only [Int.natCast_add]; grind
  rw [area]
  have u1 := cu_in hd p r
  rw [hd', Nat.add_sub_cancel, ← hd'] at u1
  rcases Nat.eq_zero_or_pos d1 with z1 | z1
  · -- a vertical first edge
    subst z1
    rw [Nat.zero_add] at hd' hd u1
    obtain ⟨hqp, cL⟩ := colL0 (a := a) (d2 := d2) (p := p) (q := q) (r := r) hp hq ha hd
    have cR := colR1 (a := a) (d1 := 0) (d2 := d2) (p := p) (q := q) (r := r) hr ha hd
    have m : rs (fun t => cw a 0 d2 p q r (a + (t + 1))) d = rs (fun t => cu d2 p r (t + 1) - cu d2 q r (t + 1)) d := rs_congr fun t ht => by
      have := col2 (a := a) (d1 := 0) (d2 := d2) (p := p) (q := q) (r := r) (t := t + 1) hp hq hr ha (by omega) (by omega)
      simpa only [Nat.zero_add] using this
    have u2 := cu_in hd q r
    rw [hd', Nat.add_sub_cancel, ← hd'] at u2
    rw [cL, cR, m, rs_sub (fun t => cu d2 p r (t + 1)), u1, u2]
    simp only [Int.natCast_zero]
    grind
  rcases Nat.eq_zero_or_pos d2 with z2 | z2
  · subst z2
    rw [Nat.add_zero] at hd' hd u1
    have cL := colL1 (a := a) (d1 := d1) (d2 := 0) (p := p) (q := q) (r := r) hp ha z1
    obtain ⟨hqr, cR⟩ := colR0 (a := a) (d1 := d1) (p := p) (q := q) (r := r) hr hq ha z1
    have m : rs (fun t => cw a d1 0 p q r (a + (t + 1))) d = rs (fun t => cu d1 p r (t + 1) - cu d1 p q (t + 1)) d := rs_congr fun t ht => by
      have := col1 (a := a) (d1 := d1) (d2 := 0) (p := p) (q := q) (r := r) (t := t + 1) hp hq hr ha (by omega) (by omega) (by omega)
      simpa only [Nat.add_zero] using this
    have u2 := cu_in hd p q
    rw [hd', Nat.add_sub_cancel, ← hd'] at u2
    rw [cL, cR, m, rs_sub (fun t => cu d1 p r (t + 1)), u1, u2]
    simp only [Int.natCast_zero]
    grind
  have cL := colL1 (a := a) (d1 := d1) (d2 := d2) (p := p) (q := q) (r := r) hp ha z1
  have cR := colR1 (a := a) (d1 := d1) (d2 := d2) (p := p) (q := q) (r := r) hr ha z2
  have ed : d = d1 + (d2 - 1) := by omega
  have m : rs (fun t => cw a d1 d2 p q r (a + (t + 1))) d = rs (fun t => cu (d1 + d2) p r (t + 1)) d - rs (fun t => cu d1 p q (t + 1)) d1 - rs (fun t => cu d2 q r (t + 1)) (d2 - 1) := by
    rw [ed, rs_add _ d1, rs_add (fun t => cu (d1 + d2) p r (t + 1)) d1]
    have k1 : rs (fun t => cw a d1 d2 p q r (a + (t + 1))) d1 = rs (fun t => cu (d1 + d2) p r (t + 1) - cu d1 p q (t + 1)) d1 := rs_congr fun t ht => col1 hp hq hr ha (by omega) (by omega) (by omega)
    have k2 : rs (fun t => cw a d1 d2 p q r (a + (d1 + t + 1))) (d2 - 1) = rs (fun t => cu (d1 + d2) p r (d1 + t + 1) - cu d2 q r (t + 1)) (d2 - 1) := rs_congr fun t ht => by
      have := col2 (a := a) (d1 := d1) (d2 := d2) (p := p) (q := q) (r := r) (t := t + 1) hp hq hr ha (by omega) (by omega)
      exact this
    rw [k1, k2, rs_sub (fun t => cu (d1 + d2) p r (t + 1)), rs_sub (fun t => cu (d1 + d2) p r (d1 + t + 1))]
    omega
  rw [cL, cR, m, u1, cu_in1 z1, cu_in z2]
  simp only [Int.natCast_add]
  grind
end
end Go.Proofs.Ytojciffnkbfbhaa.Am
