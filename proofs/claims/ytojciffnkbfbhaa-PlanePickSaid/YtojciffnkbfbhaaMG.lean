import Derived.Test.YtojciffnkbfbhaaME
/-
  Plain laws: what two polygons have in common that an edge separates.
-/
namespace Go.Proofs.Ytojciffnkbfbhaa.Am
set_option linter.unusedSimpArgs false
set_option linter.unusedVariables false
/-! ### Order along a line -/
def dd (P Q x : Pt) : Int := (Q.1 - P.1) * (x.1 - P.1) + (Q.2 - P.2) * (x.2 - P.2)
def lexle (p q : Pt) : Prop := p.1 < q.1 ∨ (p.1 = q.1 ∧ p.2 ≤ q.2)
theorem lexle_ord {p q : Pt} : lexle p q ↔ ¬ 0 < ordS p q := by rw [ord_gt]; unfold lexle; omega
theorem lexle_trans {p q r : Pt} (h1 : lexle p q) (h2 : lexle q r) : lexle p r := by unfold lexle at *; omega
theorem lexle_tot (p q : Pt) : lexle p q ∨ lexle q p := by unfold lexle; omega
theorem lexle_anti {p q : Pt} (h1 : lexle p q) (h2 : lexle q p) : p = q := by unfold lexle at *; exact Prod.ext (by omega) (by omega)
theorem lexle_refl (p : Pt) : lexle p p := by unfold lexle; omega
theorem le_max {u v p : Pt} : lexle (maxO u v) p ↔ lexle u p ∧ lexle v p := by
  unfold maxO
  split
  · rename_i h; rw [ord_gt] at h
    constructor
    · intro q; exact ⟨by unfold lexle at *; omega, q⟩
    · exact fun q => q.2
  · rename_i h; rw [ord_gt] at h
    constructor
    · intro q; exact ⟨q, by unfold lexle at *; omega⟩
    · exact fun q => q.1
theorem le_min {u v p : Pt} : lexle p (minO u v) ↔ lexle p u ∧ lexle p v := by
  unfold minO
  split
  · rename_i h; rw [ord_lt] at h
    constructor
    · intro q; exact ⟨by unfold lexle at *; omega, q⟩
    · exact fun q => q.2
  · rename_i h; rw [ord_lt] at h
    constructor
    · intro q; exact ⟨q, by unfold lexle at *; omega⟩
    · exact fun q => q.1
/-- Between the ends of a segment, in the order of places. -/
def btw (P Q x : Pt) : Prop := (lexle P x ∧ lexle x Q) ∨ (lexle Q x ∧ lexle x P)
theorem btw_lohi {P Q x : Pt} : btw P Q x ↔ lexle (lo P Q) x ∧ lexle x (Am.hi P Q) := by
  unfold btw lo Am.hi
  split
  · rename_i h; rw [ord_lt] at h; unfold lexle; omega
  · rename_i h; rw [ord_lt] at h; unfold lexle; omega
theorem sgn_of {d1 d2 w1 w2 : Int} (hd : d1 ≠ 0 ∨ d2 ≠ 0) (hz : d1 * w2 = d2 * w1) : (0 < d1 ∨ (d1 = 0 ∧ 0 < d2)) → (0 ≤ d1 * w1 + d2 * w2 ↔ (0 < w1 ∨ (w1 = 0 ∧ 0 ≤ w2))) := by
  intro hp
  rcases hp with hp | ⟨hp, hq⟩
  · have e : d1 * (d1 * w1 + d2 * w2) = (d1 * d1 + d2 * d2) * w1 := by grind
    have pos : 0 < d1 * d1 + d2 * d2 := by have := Int.mul_pos hp hp; have := sq_nn d2; omega
    constructor
    · intro h
      have := Int.mul_nonneg (Int.le_of_lt hp) h
      have h1 := nn_of_mul pos (b := w1) (by omega)
      rcases Int.lt_or_eq_of_le h1 with q | q
      · exact .inl q
      · refine .inr ⟨q.symm, ?_⟩
        rw [← q, Int.mul_zero] at hz
        rcases Int.mul_eq_zero.1 hz with c | c <;> omega
    · intro h
      have h1 : 0 ≤ w1 := by omega
      have := Int.mul_nonneg (Int.le_of_lt pos) h1
      exact nn_of_mul hp (by omega)
  · subst hp
    have hw : w1 = 0 := by
      rw [Int.zero_mul] at hz
      rcases Int.mul_eq_zero.1 hz.symm with c | c
      · omega
      · exact c
    subst hw
    rw [Int.zero_mul, Int.zero_add]
    constructor
    · intro h; exact .inr ⟨rfl, nn_of_mul hq h⟩
    · rintro (h | ⟨_, h⟩)
      · omega
      · exact Int.mul_nonneg (Int.le_of_lt hq) h
/-- On a line, the order of places is that along it, or the other way round. -/
theorem dd_lex {P Q x y : Pt} (hne : P ≠ Q) (hPQ : lexle P Q) (hx : trn P Q x = 0) (hy : trn P Q y = 0) : dd P Q x ≤ dd P Q y ↔ lexle x y := by
  have hd : Q.1 - P.1 ≠ 0 ∨ Q.2 - P.2 ≠ 0 := by
    by_cases h : Q.1 - P.1 ≠ 0 ∨ Q.2 - P.2 ≠ 0
    · exact h
    · exact absurd (Prod.ext (by omega) (by omega)) hne
  have hz : (Q.1 - P.1) * (y.2 - x.2) = (Q.2 - P.2) * (y.1 - x.1) := by unfold trn at hx hy; grind
  have := sgn_of hd hz (by unfold lexle at hPQ; omega)
  have e : (Q.1 - P.1) * (y.1 - x.1) + (Q.2 - P.2) * (y.2 - x.2) = dd P Q y - dd P Q x := by unfold dd; grind
  rw [e] at this
  unfold lexle
  constructor
  · intro h; have := this.1 (by omega); omega
  · intro h; have := this.2 (by omega); omega
theorem dd_btw {P Q x : Pt} (hne : P ≠ Q) (hx : trn P Q x = 0) : btw P Q x ↔ 0 ≤ dd P Q x ∧ dd P Q x ≤ dd P Q Q := by
  have d0 : dd P Q P = 0 := by unfold dd; grind
  rcases lexle_tot P Q with h | h
  · have h1 := dd_lex hne h (trn_self1 P Q) hx
    have h2 := dd_lex hne h hx (trn_self2 P Q)
    rw [d0] at h1
    rw [h1, h2]
    unfold btw
    constructor
    · rintro (q | ⟨q1, q2⟩)
      · exact q
      · exact absurd (lexle_anti h (lexle_trans q1 q2)) hne
    · exact .inl
  · have s1 : trn Q P x = 0 := by rw [trn_swap]; omega
    have h1 := dd_lex (fun e => hne e.symm) h (trn_self1 Q P) s1
    have h2 := dd_lex (fun e => hne e.symm) h s1 (trn_self2 Q P)
    have e1 : dd Q P Q = 0 := by unfold dd; grind
    have e2 : dd Q P x = dd P Q Q - dd P Q x := by unfold dd; grind
    have e3 : dd Q P P = dd P Q Q := by unfold dd; grind
    rw [e1, e2] at h1
    rw [e2, e3] at h2
    constructor
    · rintro (⟨q1, q2⟩ | ⟨q1, q2⟩)
      · exact absurd (lexle_anti (lexle_trans q1 q2) h) hne
      · have := h1.2 q1; have := h2.2 q2; omega
    · intro q; exact .inr ⟨h1.1 (by omega), h2.1 (by omega)⟩
theorem dd_pos {P Q : Pt} (h : P ≠ Q) : 0 < dd P Q Q := by
  have := dst_pos h
  have e : dd P Q Q = dst P Q := by unfold dd dst; grind
  omega
/-- What counts along a line. -/
theorem line_f (u w P Q x : Pt) : (trn u w x - trn u w P) * dd P Q Q - (trn u w Q - trn u w P) * dd P Q x = trn P Q x * (-((w.1 - u.1) * (P.1 - Q.1) + (w.2 - u.2) * (P.2 - Q.2))) := by
  unfold trn dd; grind
theorem line_on {u w P Q x : Pt} (hx : trn P Q x = 0) : trn u w x * dd P Q Q = trn u w P * (dd P Q Q - dd P Q x) + trn u w Q * dd P Q x := by
  have := line_f u w P Q x
  rw [hx, Int.zero_mul] at this
  grind
/-- Another line through two places of a line. -/
theorem line_s (P Q u w x : Pt) (hu : trn P Q u = 0) (hw : trn P Q w = 0) : trn u w x * dd P Q Q = trn P Q x * (dd P Q w - dd P Q u) := by
  have : trn u w x * dd P Q Q - trn P Q x * (dd P Q w - dd P Q u) = trn P Q w * (dd P Q u - dd P Q x) + trn P Q u * (dd P Q x - dd P Q w) := by
    unfold trn dd; grind
  rw [hu, hw] at this
  simp only [Int.zero_mul, Int.add_zero] at this
  omega
theorem dd_inj {P Q u w : Pt} (hne : P ≠ Q) (hu : trn P Q u = 0) (hw : trn P Q w = 0) (h : dd P Q u = dd P Q w) : u = w := by
  rcases lexle_tot P Q with q | q
  · exact lexle_anti ((dd_lex hne q hu hw).1 (by omega)) ((dd_lex hne q hw hu).1 (by omega))
  · have s1 : trn Q P u = 0 := by rw [trn_swap]; omega
    have s2 : trn Q P w = 0 := by rw [trn_swap]; omega
    have e1 : dd Q P u = dd P Q Q - dd P Q u := by unfold dd; grind
    have e2 : dd Q P w = dd P Q Q - dd P Q w := by unfold dd; grind
    exact lexle_anti ((dd_lex (Ne.symm hne) q s1 s2).1 (by omega)) ((dd_lex (Ne.symm hne) q s2 s1).1 (by omega))
theorem same_line {P Q u w x : Pt} (hne : P ≠ Q) (huw : u ≠ w) (hu : trn P Q u = 0) (hw : trn P Q w = 0) : trn u w x = 0 ↔ trn P Q x = 0 := by
  have e := line_s P Q u w x hu hw
  have p := dd_pos hne
  have n : dd P Q w - dd P Q u ≠ 0 := fun q => huw (dd_inj hne hu hw (by omega))
  constructor
  · intro h
    rw [h, Int.zero_mul] at e
    rcases Int.mul_eq_zero.1 e.symm with c | c
    · exact c
    · exact absurd c n
  · intro h
    rw [h, Int.zero_mul] at e
    rcases Int.mul_eq_zero.1 e with c | c
    · exact c
    · omega
/-! ### Closed polygons -/
theorem E_corner {l : List Pt} (h : VP l) {j x : Nat} (hj : j < l.length) (hx : x < l.length) (hz : E l j (pa l x) = 0) : x = j ∨ x = (j + 1) % l.length := by
  by_cases h1 : x = j
  · exact .inl h1
  by_cases h2 : x = (j + 1) % l.length
  · exact .inr h2
  have := h.cv j x hj hx h1 h2
  unfold E at hz
  omega
theorem E_nn {l : List Pt} (h : VP l) {j : Nat} (hj : j < l.length) {x : Pt} (hx : x ∈ l) : 0 ≤ E l j x := by
  have l3 := h.l3
  obtain ⟨t, ht, rfl⟩ := pa_of hx
  have := q_nn h j t
  rwa [qa_lt ht, E_qa (by omega), Nat.mod_eq_of_lt hj] at this
theorem E_other {l : List Pt} (h : VP l) {j : Nat} (hj : j < l.length) : ∃ x ∈ l, 0 < E l j x := by
  have l3 := h.l3
  obtain ⟨k, hk, n1, n2⟩ : ∃ k, k < l.length ∧ k ≠ j ∧ k ≠ (j + 1) % l.length := by
    by_cases h0 : 0 ≠ j ∧ 0 ≠ (j + 1) % l.length
    · exact ⟨0, by omega, h0.1, h0.2⟩
    by_cases h1 : 1 ≠ j ∧ 1 ≠ (j + 1) % l.length
    · exact ⟨1, by omega, h1.1, h1.2⟩
    exact ⟨2, by omega, by omega, by omega⟩
  exact ⟨_, pa_mem hk, h.cv j k hj hk n1 n2⟩
theorem clo_half {l : List Pt} (h : VP l) {p g : Pt} (hc : clo l p) (hh : ∀ q ∈ l, 0 < lin g p q) : False := by
  have l3 := h.l3
  have hn : 0 < l.length := by omega
  have e : ∀ t, 0 ≤ trn p (qa l t) (qa l (t + 1)) := fun t => by
    rw [← trn_rot, E_qa hn]; exact hc _ (Nat.mod_lt _ hn)
  obtain ⟨m, hm⟩ : ∃ m, 0 < trn p (qa l m) (qa l (m + 1)) := by
    by_cases h0 : 0 < trn p (qa l 0) (qa l 1)
    · exact ⟨0, h0⟩
    by_cases h1 : 0 < trn p (qa l 1) (qa l 2)
    · exact ⟨1, h1⟩
    refine ⟨2, ?_⟩
    have z0 : trn p (qa l 0) (qa l 1) = 0 := by have : 0 ≤ trn p (qa l 0) (qa l 1) := e 0; omega
    have z1 : trn p (qa l 1) (qa l 2) = 0 := by have : 0 ≤ trn p (qa l 1) (qa l 2) := e 1; omega
    have c := conv_q h.cv (s := 0) (a := 2) (by omega) (by omega)
    simp only [Nat.zero_add] at c
    have ep : p = qa l 1 := trn_z (w := qa l 0) (x := qa l 2) (by
      have : trn (qa l 1) (qa l 0) p = - trn p (qa l 0) (qa l 1) := by unfold trn; grind
      omega) (by
      have : trn (qa l 1) (qa l 2) p = trn p (qa l 1) (qa l 2) := by unfold trn; grind
      omega) (by
      have : trn (qa l 1) (qa l 0) (qa l 2) = - trn (qa l 0) (qa l 1) (qa l 2) := by unfold trn; grind
      omega)
    have c2 := conv_q h.cv (s := 2) (a := l.length - 1) (by omega) (by omega)
    rw [show 2 + (l.length - 1) = 1 + l.length by omega, qa_add, ← ep, trn_rot] at c2
    exact c2
  have key : ∀ t, 0 < trn p (qa l m) (qa l (m + (t + 1))) := by
    intro t
    induction t with
    | zero => exact hm
    | succ t ih =>
      have pl := pluck g p (qa l m) (qa l (m + (t + 1))) (qa l (m + (t + 1 + 1)))
      have ha := hh _ (qa_mem hn m)
      have hb := hh _ (qa_mem hn (m + (t + 1)))
      have hc := hh _ (qa_mem hn (m + (t + 1 + 1)))
      have hbc := e (m + (t + 1))
      rw [show m + (t + 1) + 1 = m + (t + 1 + 1) by omega] at hbc
      have k1 := Int.mul_nonneg (Int.le_of_lt ha) hbc
      have k2 := Int.mul_pos hc ih
      exact pos_of_mul hb (by omega)
  have := key (l.length - 1)
  rw [show m + (l.length - 1 + 1) = m + l.length by omega, qa_add, trn_self2] at this
  omega
/-- A closed polygon is where its corners are. -/
theorem clo_le {l : List Pt} (h : VP l) {p u w : Pt} (hc : clo l p) (hh : ∀ q ∈ l, trn u w q ≤ 0) : trn u w p ≤ 0 := by
  rcases Int.lt_or_le 0 (trn u w p) with q | q
  · exact absurd (clo_half h hc (g := (w.2 - u.2, u.1 - w.1)) fun x hx => by
      rw [trn_lin]; have := hh x hx; omega) id
  · exact q
/-- A place of a closed polygon on the line of an edge is between its ends. -/
theorem seg_iff {l : List Pt} (h : VP l) {j : Nat} (hj : j < l.length) {p : Pt} (hz : E l j p = 0) : clo l p ↔ btw (pa l j) (pa l ((j + 1) % l.length)) p := by
  have l3 := h.l3
  have hn : 0 < l.length := by omega
  have hne := h.ne hj
  have q0 : pa l j = qa l j := (qa_lt hj).symm
  have q1 : pa l ((j + 1) % l.length) = qa l (j + 1) := rfl
  rw [q0, q1] at hne ⊢
  have hz' : trn (qa l j) (qa l (j + 1)) p = 0 := by rw [← qa_E hn hj]; exact hz
  rw [dd_btw hne hz']
  have D := dd_pos hne
  constructor
  · intro hc
    have f1 : 0 ≤ trn (qa l (j + 1)) (qa l (j + 2)) p := by
      have : 0 ≤ trn (qa l (j + 1)) (qa l (j + 1 + 1)) p := by rw [E_qa hn]; exact hc _ (Nat.mod_lt _ hn)
      exact this
    have f2 : 0 ≤ trn (qa l (j + (l.length - 1))) (qa l (j + (l.length - 1) + 1)) p := by rw [E_qa hn]; exact hc _ (Nat.mod_lt _ hn)
    have e2 : qa l (j + (l.length - 1) + 1) = qa l j := by rw [show j + (l.length - 1) + 1 = j + l.length by omega, qa_add]
    rw [e2] at f2
    have i1 := line_on (u := qa l (j + 1)) (w := qa l (j + 2)) hz'
    have i2 := line_on (u := qa l (j + (l.length - 1))) (w := qa l j) hz'
    rw [trn_self1, Int.zero_mul, Int.add_zero] at i1
    rw [trn_self2, Int.zero_mul, Int.zero_add] at i2
    have c1 : 0 < trn (qa l (j + 1)) (qa l (j + 2)) (qa l j) := by
      have := conv_q h.cv (s := j + 1) (a := l.length - 1) (by omega) (by omega)
      rwa [show j + 1 + (l.length - 1) = j + l.length by omega, qa_add] at this
    have c2 : 0 < trn (qa l (j + (l.length - 1))) (qa l j) (qa l (j + 1)) := by
      have := conv_q h.cv (s := j + (l.length - 1)) (a := 2) (by omega) (by omega)
      rwa [e2, show j + (l.length - 1) + 2 = j + 1 + l.length by omega, qa_add] at this
    have k1 := Int.mul_nonneg f1 (Int.le_of_lt D)
    have k2 := Int.mul_nonneg f2 (Int.le_of_lt D)
    have m1 := nn_of_mul c1 (b := dd (qa l j) (qa l (j + 1)) (qa l (j + 1)) - dd (qa l j) (qa l (j + 1)) p) (by omega)
    have m2 := nn_of_mul c2 (b := dd (qa l j) (qa l (j + 1)) p) (by omega)
    omega
  · rintro ⟨m1, m2⟩ i hi
    have i1 := line_on (u := qa l i) (w := qa l (i + 1)) hz'
    have g1 := q_nn h i j
    have g2 := q_nn h i (j + 1)
    have k1 := Int.mul_nonneg g1 (show 0 ≤ dd (qa l j) (qa l (j + 1)) (qa l (j + 1)) - dd (qa l j) (qa l (j + 1)) p by omega)
    have k2 := Int.mul_nonneg g2 m1
    rw [qa_E hn hi]
    exact nn_of_mul D (by rw [Int.mul_comm]; omega)
end Go.Proofs.Ytojciffnkbfbhaa.Am
