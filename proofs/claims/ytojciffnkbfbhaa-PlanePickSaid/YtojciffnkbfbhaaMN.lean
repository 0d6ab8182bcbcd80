import Derived.Test.YtojciffnkbfbhaaMM
/-
  Plain laws: places on the boundary.
-/
namespace Go.Proofs.Ytojciffnkbfbhaa.Am
set_option linter.unusedSimpArgs false
set_option linter.unusedVariables false
theorem coprime_line {u v a b : Int} (h : Int.gcd u v = 1) (e : u * b = v * a) : ∃ t, a = u * t ∧ b = v * t := by
  by_cases hu : u = 0
  · subst hu
    rw [Int.zero_mul] at e
    have hv : v.natAbs = 1 := by simpa [Int.gcd] using h
    have hv' : v = 1 ∨ v = -1 := by omega
    refine ⟨v * b, ?_, ?_⟩
    · rcases hv' with q | q <;> rw [q] at e <;> omega
    · rcases hv' with q | q <;> rw [q] <;> omega
  · have d : u.natAbs ∣ v.natAbs * a.natAbs := by
      rw [← Int.natAbs_mul, ← e, Int.natAbs_mul]
      exact Nat.dvd_mul_right _ _
    have c : Nat.Coprime u.natAbs v.natAbs := h
    have := c.dvd_of_dvd_mul_left d
    obtain ⟨t, rfl⟩ := Int.natAbs_dvd_natAbs.1 this
    refine ⟨t, rfl, ?_⟩
    have e2 : u * (b - v * t) = 0 := by grind
    rcases Int.mul_eq_zero.1 e2 with q | q
    · exact absurd q hu
    · omega
open Classical in
theorem seg_count {P Q : Pt} (hP : On P) (hQ : On Q) (hne : P ≠ Q) : gsum (fun p => ii (trn P Q p = 0 ∧ btw P Q p ∧ p ≠ Q)) = gcE (P, Q) := by
  have hd : Q.1 - P.1 ≠ 0 ∨ Q.2 - P.2 ≠ 0 := by
    by_cases h : Q.1 - P.1 ≠ 0 ∨ Q.2 - P.2 ≠ 0
    · exact h
    · exact absurd (Prod.ext (by omega) (by omega)) hne
  obtain ⟨g, hg⟩ : ∃ g, Int.gcd (Q.1 - P.1) (Q.2 - P.2) = g := ⟨_, rfl⟩
  have gp : 0 < g := by
    rw [← hg]
    rcases hd with h | h
    · exact Int.gcd_pos_of_ne_zero_left _ h
    · exact Int.gcd_pos_of_ne_zero_right _ h
  obtain ⟨u, hu⟩ : ∃ u, Q.1 - P.1 = g * u := by rw [← hg]; exact Int.gcd_dvd_left _ _
  obtain ⟨v, hv⟩ : ∃ v, Q.2 - P.2 = g * v := by rw [← hg]; exact Int.gcd_dvd_right _ _
  have cop : Int.gcd u v = 1 := by
    have : Int.gcd ((g : Int) * u) ((g : Int) * v) = g := by rw [← hu, ← hv]; exact hg
    rw [Int.gcd_mul_left] at this
    have e : g * Int.gcd u v = g * 1 := by simpa using this
    exact Nat.eq_of_mul_eq_mul_left gp e
  have uv : u ≠ 0 ∨ v ≠ 0 := by
    rcases hd with h | h
    · left; intro q; rw [hu, q, Int.mul_zero] at h; exact h rfl
    · right; intro q; rw [hv, q, Int.mul_zero] at h; exact h rfl
  have W : 0 < u * u + v * v := by
    have h1 := sq_nn u
    have h2 := sq_nn v
    rcases uv with h | h
    · have : u * u ≠ 0 := fun q => h (sq0 q); omega
    · have : v * v ≠ 0 := fun q => h (sq0 q); omega
  have gi : (0 : Int) < g := by omega
  -- the places, one by one
  have char : ∀ p : Pt, (trn P Q p = 0 ∧ btw P Q p ∧ p ≠ Q) ↔ ∃ t : Nat, t < g ∧ p = (P.1 + t * u, P.2 + t * v) := fun p => by
    constructor
    · rintro ⟨z, b, n⟩
      have z' : (g : Int) * (u * (p.2 - P.2) - v * (p.1 - P.1)) = 0 := by unfold trn at z; rw [hu, hv] at z; grind
      have z2 : u * (p.2 - P.2) = v * (p.1 - P.1) := by
        rcases Int.mul_eq_zero.1 z' with q | q <;> omega
      obtain ⟨t, e1, e2⟩ := coprime_line cop z2
      rw [dd_btw hne z] at b
      have d1 : dd P Q p = (g : Int) * ((u * u + v * v) * t) := by unfold dd; rw [hu, hv, e1, e2]; grind
      have d2 : dd P Q Q - dd P Q p = (g : Int) * ((u * u + v * v) * (g - t)) := by
        rw [d1]; unfold dd; rw [hu, hv]; grind
      have t0 := nn_of_mul W (nn_of_mul gi (b := (u * u + v * v) * t) (by omega))
      have t1 := nn_of_mul W (nn_of_mul gi (b := (u * u + v * v) * (g - t)) (by omega))
      have tn : t ≠ g := fun q => n (Prod.ext (by
        have : p.1 - P.1 = g * u := by rw [e1, q, Int.mul_comm]
        omega) (by
        have : p.2 - P.2 = g * v := by rw [e2, q, Int.mul_comm]
        omega))
      refine ⟨t.toNat, by omega, Prod.ext ?_ ?_⟩
      · have : ((t.toNat : Nat) : Int) = t := by omega
        simp only [this]
        rw [Int.mul_comm] at e1; omega
      · have : ((t.toNat : Nat) : Int) = t := by omega
        simp only [this]
        rw [Int.mul_comm] at e2; omega
    · rintro ⟨t, ht, rfl⟩
      have z : trn P Q (P.1 + t * u, P.2 + t * v) = 0 := by unfold trn; simp only; rw [hu, hv]; grind
      have d1 : dd P Q (P.1 + t * u, P.2 + t * v) = (g : Int) * ((u * u + v * v) * t) := by unfold dd; simp only; rw [hu, hv]; grind
      have d2 : dd P Q Q - dd P Q (P.1 + t * u, P.2 + t * v) = (g : Int) * ((u * u + v * v) * (g - t)) := by
        rw [d1]; unfold dd; rw [hu, hv]; grind
      have k1 := Int.mul_nonneg (Int.le_of_lt gi) (Int.mul_nonneg (Int.le_of_lt W) (show (0 : Int) ≤ t by omega))
      have k2 := Int.mul_pos gi (Int.mul_pos W (show (0 : Int) < g - t by omega))
      refine ⟨z, (dd_btw hne z).2 ⟨by omega, by omega⟩, fun e => ?_⟩
      rw [e] at d2
      omega
  have inj : ∀ s t : Nat, ((P.1 + s * u, P.2 + s * v) : Pt) = (P.1 + t * u, P.2 + t * v) → s = t := fun s t e => by
    have e1 := congrArg Prod.fst e
    have e2 := congrArg Prod.snd e
    simp only at e1 e2
    have f1 : ((s : Int) - t) * u = 0 := by grind
    have f2 : ((s : Int) - t) * v = 0 := by grind
    rcases uv with h | h
    · rcases Int.mul_eq_zero.1 f1 with q | q
      · omega
      · exact absurd q h
    · rcases Int.mul_eq_zero.1 f2 with q | q
      · omega
      · exact absurd q h
  have onp : ∀ t : Nat, t < g → On (P.1 + t * u, P.2 + t * v) := fun t ht => by
    have hP' := hP
    have hQ' := hQ
    unfold On at hP' hQ'
    have b1 := nb hP'.1 hQ'.1 (d := (g : Int)) (t := (t : Int)) (by omega)
    have b2 := nb hP'.2 hQ'.2 (d := (g : Int)) (t := (t : Int)) (by omega)
    have q1 : Q.1 = P.1 + g * u := by omega
    have q2 : Q.2 = P.2 + g * v := by omega
    have e1 : P.1 * (g - t) + Q.1 * t = g * (P.1 + t * u) := by rw [q1]; grind
    have e2 : P.2 * (g - t) + Q.2 * t = g * (P.2 + t * v) := by rw [q2]; grind
    rw [e1] at b1
    rw [e2] at b2
    have m1 := nn_of_mul gi b1.1
    have m2 := nn_of_mul gi b2.1
    have m3 := nn_of_mul gi (b := 40 - (P.1 + t * u)) (by rw [Int.mul_sub]; omega)
    have m4 := nn_of_mul gi (b := 40 - (P.2 + t * v)) (by rw [Int.mul_sub]; omega)
    unfold On
    simp only
    omega
  have e : gsum (fun p => ii (trn P Q p = 0 ∧ btw P Q p ∧ p ≠ Q)) = gsum (fun p => rs (fun t => ii (p = (P.1 + (t : Int) * u, P.2 + (t : Int) * v))) g) := gsum_congr fun p _ => by
    by_cases h : trn P Q p = 0 ∧ btw P Q p ∧ p ≠ Q
    · obtain ⟨t, ht, et⟩ := (char p).1 h
      rw [ii_t h, rs_one (f := fun s : Nat => ii (p = (P.1 + (s : Int) * u, P.2 + (s : Int) * v))) ht (ii_t et) fun s hs hst => ii_f fun q => hst (inj s t (q.symm.trans et))]
    · rw [ii_f h, rs_z fun t ht => ii_f fun q => h ((char p).2 ⟨t, ht, q⟩)]
  rw [e, gsum_rs (fun t p => ii (p = (P.1 + (t : Int) * u, P.2 + (t : Int) * v))) g, rs_congr (g := fun _ => 1) fun t ht => gsum_pt (onp t ht), rs_const, Int.one_mul]
  show (g : Int) = (Int.gcd (Q.1 - P.1) (Q.2 - P.2) : Int)
  rw [hg]
/-- On the half-open edge. -/
def hE (l : List Pt) (j : Nat) (p : Pt) : Prop := trn (pa l j) (pa l ((j + 1) % l.length)) p = 0 ∧ btw (pa l j) (pa l ((j + 1) % l.length)) p ∧ p ≠ pa l ((j + 1) % l.length)
theorem hE_start {l : List Pt} (h : VP l) {j j' : Nat} (hj : j < l.length) (hj' : j' < l.length) {p : Pt} (h1 : hE l j p) (h2 : hE l j' p) : j = j' ∨ j = (j' + 1) % l.length := by
  obtain ⟨z1, b1, n1⟩ := h1
  obtain ⟨z2, b2, n2⟩ := h2
  have hm : (j + 1) % l.length < l.length := Nat.mod_lt _ (by omega)
  have hne := h.ne hj
  have lo := line_on (u := pa l j') (w := pa l ((j' + 1) % l.length)) z1
  rw [z2, Int.zero_mul] at lo
  rw [dd_btw hne z1] at b1
  have g1 := E_nn h hj' (pa_mem hj)
  have g2 := E_nn h hj' (pa_mem hm)
  unfold E at g1 g2
  have D := dd_pos hne
  have n3 : dd (pa l j) (pa l ((j + 1) % l.length)) p ≠ dd (pa l j) (pa l ((j + 1) % l.length)) (pa l ((j + 1) % l.length)) := fun q => n1 (dd_inj hne z1 (trn_self2 _ _) q)
  have k1 := Int.mul_nonneg g1 (show 0 ≤ dd (pa l j) (pa l ((j + 1) % l.length)) (pa l ((j + 1) % l.length)) - dd (pa l j) (pa l ((j + 1) % l.length)) p by omega)
  have k2 := Int.mul_nonneg g2 b1.1
  have k3 : trn (pa l j') (pa l ((j' + 1) % l.length)) (pa l j) * (dd (pa l j) (pa l ((j + 1) % l.length)) (pa l ((j + 1) % l.length)) - dd (pa l j) (pa l ((j + 1) % l.length)) p) = 0 := by omega
  rcases Int.mul_eq_zero.1 k3 with q | q
  · exact E_corner h hj' hj q
  · omega
theorem hE_uniq {l : List Pt} (h : VP l) {j j' : Nat} (hj : j < l.length) (hj' : j' < l.length) {p : Pt} (h1 : hE l j p) (h2 : hE l j' p) : j = j' := by
  have l3 := h.l3
  rcases hE_start h hj hj' h1 h2 with q | q
  · exact q
  rcases hE_start h hj' hj h2 h1 with w | w
  · exact w.symm
  exfalso
  rw [q, Nat.mod_add_mod] at w
  have := mod_ne (s := j') (n := l.length) (a := 2) (b := 0) (by omega) (by omega) (by omega)
  rw [Nat.add_zero j', Nat.mod_eq_of_lt hj'] at this
  exact this w.symm
open Classical in
theorem bd_one {l : List Pt} (h : VP l) (p : Pt) : ii (sd l p = 0) = rs (fun j => ii (hE l j p)) l.length := by
  have l3 := h.l3
  by_cases h0 : sd l p = 0
  · obtain ⟨hc, hi⟩ := sd_0.1 h0
    obtain ⟨j, hj, ej⟩ : ∃ j, j < l.length ∧ E l j p = 0 := by
      by_cases hex : ∃ j, j < l.length ∧ E l j p = 0
      · exact hex
      · exact absurd (fun j hj => by
          have := hc j hj
          have : E l j p ≠ 0 := fun e => hex ⟨j, hj, e⟩
          omega) hi
    have hm : (j + 1) % l.length < l.length := Nat.mod_lt _ (by omega)
    obtain ⟨t, ht, e⟩ : ∃ t, t < l.length ∧ hE l t p := by
      by_cases e : p = pa l ((j + 1) % l.length)
      · refine ⟨(j + 1) % l.length, hm, ?_, ?_, ?_⟩
        · rw [e, trn_self1]
        · rw [e]
          rcases lexle_tot (pa l ((j + 1) % l.length)) (pa l (((j + 1) % l.length + 1) % l.length)) with q | q
          · exact .inl ⟨lexle_refl _, q⟩
          · exact .inr ⟨q, lexle_refl _⟩
        · rw [e]; exact h.ne hm
      · exact ⟨j, hj, ej, (seg_iff h hj ej).1 hc, e⟩
    rw [ii_t h0, rs_one ht (ii_t e) fun s hs hst => ii_f fun q => hst (hE_uniq h hs ht q e)]
  · rw [ii_f h0, rs_z fun j hj => ii_f fun q => h0 ?_]
    have ej : E l j p = 0 := q.1
    refine sd_0.2 ⟨(seg_iff h hj ej).2 q.2.1, fun hi => ?_⟩
    have := hi j hj
    omega
open Classical in
theorem bd_count {l : List Pt} (h : VP l) : gsum (fun p => ii (sd l p = 0)) = bdS l := by
  have e : gsum (fun p => ii (sd l p = 0)) = gsum (fun p => rs (fun j => ii (hE l j p)) l.length) := gsum_congr fun p _ => bd_one h p
  rw [e, gsum_rs (fun j p => ii (hE l j p)) l.length]
  have e2 : rs (fun j => gsum (fun p => ii (hE l j p))) l.length = rs (fun j => gcE (pa l j, pa l ((j + 1) % l.length))) l.length := rs_congr fun j hj => by
    have hm : (j + 1) % l.length < l.length := Nat.mod_lt _ (by omega)
    have s := seg_count (h.on _ (pa_mem hj)) (h.on _ (pa_mem hm)) (h.ne hj)
    rw [← s]
    refine gsum_congr fun p _ => ?_
    by_cases q : hE l j p
    · rw [ii_t q]; exact (ii_t (show _ ∧ _ from q)).symm
    · rw [ii_f q]; exact (ii_f (show ¬ (_ ∧ _) from q)).symm
  rw [e2]
  unfold rs bdS edgesL
  rw [List.map_map]
  rfl
theorem bd_len {l : List Pt} (h : VP l) : (l.length : Int) ≤ bdS l := by
  have e : bdS l = rs (fun j => gcE (pa l j, pa l ((j + 1) % l.length))) l.length := by
    unfold rs bdS edgesL
    rw [List.map_map]
    rfl
  rw [e]
  have key : ∀ n, n ≤ l.length → (n : Int) ≤ rs (fun j => gcE (pa l j, pa l ((j + 1) % l.length))) n := by
    intro n
    induction n with
    | zero => intro _; rw [rs_zero]; simp
    | succ n ih =>
      intro hn
      rw [rs_succ, ns]
      have := ih (by omega)
      have hne := h.ne (show n < l.length by omega)
      have g1 : 1 ≤ gcE (pa l n, pa l ((n + 1) % l.length)) := by
        unfold gcE
        have : 0 < Int.gcd ((pa l ((n + 1) % l.length)).1 - (pa l n).1) ((pa l ((n + 1) % l.length)).2 - (pa l n).2) := by
          by_cases h1 : (pa l ((n + 1) % l.length)).1 - (pa l n).1 = 0
          · have h2 : (pa l ((n + 1) % l.length)).2 - (pa l n).2 ≠ 0 := fun q => hne (Prod.ext (by omega) (by omega))
            exact Int.gcd_pos_of_ne_zero_right _ h2
          · exact Int.gcd_pos_of_ne_zero_left _ h1
        simp only
        omega
      omega
  exact key l.length (Nat.le_refl _)
end Go.Proofs.Ytojciffnkbfbhaa.Am
