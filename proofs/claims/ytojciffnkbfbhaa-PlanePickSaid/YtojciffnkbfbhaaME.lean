import Derived.Test.YtojciffnkbfbhaaMD
/-
  Plain laws: what a cut does to places and seams.
-/
namespace Go.Proofs.Ytojciffnkbfbhaa.Am
set_option linter.unusedSimpArgs false
set_option linter.unusedVariables false
theorem qa_E {l : List Pt} (hl : 0 < l.length) {i : Nat} (hi : i < l.length) (p : Pt) : E l i p = trn (qa l i) (qa l (i + 1)) p := by
  rw [E_qa hl, Nat.mod_eq_of_lt hi]
theorem arc_qa {l : List Pt} {i m t : Nat} (ht : t ≤ m) : qa (arc l i m) t = qa l (i + t) := by rw [qa_lt (by rw [arc_len]; omega), arc_pa ht]
theorem arc_qa_end (l : List Pt) (i m : Nat) : qa (arc l i m) (m + 1) = qa l i := by
  have := qa_add (arc l i m) 0
  rw [arc_len, Nat.zero_add] at this
  rw [this, arc_qa (Nat.zero_le _), Nat.add_zero]
theorem arc_E {l : List Pt} {i m t : Nat} (ht : t < m) (p : Pt) : E (arc l i m) t p = trn (qa l (i + t)) (qa l (i + t + 1)) p := by
  rw [qa_E (by rw [arc_len]; omega) (by rw [arc_len]; omega), arc_qa (by omega), arc_qa (by omega)]; rfl
theorem arc_E_end {l : List Pt} {i m : Nat} (p : Pt) : E (arc l i m) m p = trn (qa l (i + m)) (qa l i) p := by
  rw [qa_E (by rw [arc_len]; omega) (by rw [arc_len]; omega), arc_qa (Nat.le_refl _), arc_qa_end]
theorem mem_arc {l : List Pt} {i m : Nat} {p : Pt} : p ∈ arc l i m ↔ ∃ t, t ≤ m ∧ p = qa l (i + t) := by
  unfold arc
  simp only [List.mem_map, List.mem_range]
  exact ⟨fun ⟨t, h, e⟩ => ⟨t, by omega, e.symm⟩, fun ⟨t, h, e⟩ => ⟨t, by omega, e.symm⟩⟩
/-- No corner is to the right of an edge. -/
theorem q_nn {l : List Pt} (h : VP l) (s t : Nat) : 0 ≤ trn (qa l s) (qa l (s + 1)) (qa l t) := by
  have l3 := h.l3
  have hn : 0 < l.length := by omega
  have hs := stp_lt (n := l.length) (i := s % l.length) (k := t % l.length) hn
  have ha := stp_at (Nat.mod_lt s hn) (Nat.mod_lt t hn)
  rw [Nat.mod_add_mod] at ha
  have e : qa l t = qa l (s + stp l.length (s % l.length) (t % l.length)) := by
    show pa l (t % l.length) = pa l ((s + stp l.length (s % l.length) (t % l.length)) % l.length)
    rw [ha]
  rw [e]
  generalize stp l.length (s % l.length) (t % l.length) = a at *
  by_cases h0 : a = 0
  · subst h0; show 0 ≤ trn (qa l s) (qa l (s + 1)) (qa l s); rw [trn_self1]; omega
  by_cases h1 : a = 1
  · subst h1; rw [trn_self2]; omega
  exact Int.le_of_lt (conv_q h.cv (by omega) hs)
theorem trn_z {u w p : Pt} {x : Pt} (h1 : trn u w p = 0) (h2 : trn u x p = 0) (h3 : trn u w x ≠ 0) : p = u := by
  have e1 : (p.1 - u.1) * trn u w x = (w.1 - u.1) * trn u p x + (x.1 - u.1) * trn u w p := by unfold trn; grind
  have e2 : (p.2 - u.2) * trn u w x = (w.2 - u.2) * trn u p x + (x.2 - u.2) * trn u w p := by unfold trn; grind
  have e3 : trn u p x = - trn u x p := by unfold trn; grind
  rw [h1, e3, h2] at e1 e2
  simp only [Int.neg_zero, Int.mul_zero, Int.add_zero, Int.mul_eq_zero] at e1 e2
  exact Prod.ext (by rcases e1 with h | h; omega; exact absurd h h3) (by rcases e2 with h | h; omega; exact absurd h h3)
theorem along_id (u w p i k v : Pt) : (trn u w p - trn u w i) * trn i v k - (trn u w k - trn u w i) * trn i v p = -trn i k p * ((w.1 - u.1) * (v.2 - i.2) - (w.2 - u.2) * (v.1 - i.1)) := by
  unfold trn; grind
/-- The two parts of a polygon that is cut. -/
structure CutAt (l : List Pt) (i k m m' : Nat) : Prop where
  h : VP l
  hm : 2 ≤ m
  hm' : 2 ≤ m'
  hs : m + m' = l.length
  hk : qa l (i + m) = qa l k
  hi : qa l (k + m') = qa l i
  hkt : ∀ t, qa l (i + (m + t)) = qa l (k + t)
theorem cut_apart {l : List Pt} {i k m m' : Nat} (C : CutAt l i k m m') : apart (arc l i m) (arc l k m') := by
  obtain ⟨h, hm, hm', hs, hk, hi, hkt⟩ := id C
  refine .inl ⟨m, by rw [arc_len]; omega, fun p hp => ?_⟩
  obtain ⟨s, hs', rfl⟩ := mem_arc.1 hp
  rw [arc_E_end, hk, ← hi]
  by_cases h0 : s = 0
  · subst h0; rw [Nat.add_zero, trn_self1]; omega
  by_cases h1 : s = m'
  · subst h1; rw [trn_self2]; omega
  have := triple h.cv k s (by omega) (m' - s - 1) (by omega)
  rw [show k + (s + (m' - s - 1) + 1) = k + m' by omega] at this
  have e : trn (qa l k) (qa l (k + m')) (qa l (k + s)) = - trn (qa l k) (qa l (k + s)) (qa l (k + m')) := by unfold trn; grind
  omega
theorem diag_ne {l : List Pt} {i k m m' : Nat} (C : CutAt l i k m m') : qa l k ≠ qa l i := by
  obtain ⟨h, hm, hm', hs, hk, hi, hkt⟩ := id C
  intro e
  have := conv_q h.cv (s := i) (a := m) hm (by omega)
  rw [hk, e, trn_self1] at this
  omega
/-- Seen from an edge of the first part, only its ends are on its line, of all corners of the second one. -/
theorem first_edge {l : List Pt} {i k m m' : Nat} (C : CutAt l i k m m') {t s : Nat} (ht : t < m) (hs' : s ≤ m') (hz : trn (qa l (i + t)) (qa l (i + t + 1)) (qa l (k + s)) = 0) : (s = 0 ∧ t + 1 = m) ∨ (s = m' ∧ t = 0) := by
  obtain ⟨h, hm, hm', hs, hk, hi, hkt⟩ := id C
  have e : qa l (k + s) = qa l (i + t + (m + s - t)) := by rw [← hkt]; congr 1; omega
  rw [e] at hz
  by_cases a1 : m + s - t = 1
  · exact .inl ⟨by omega, by omega⟩
  by_cases a2 : m + s - t = l.length
  · exact .inr ⟨by omega, by omega⟩
  have := conv_q h.cv (s := i + t) (a := m + s - t) (by omega) (by omega)
  omega
theorem diag_corner {l : List Pt} {i k m m' : Nat} (C : CutAt l i k m m') {s : Nat} (hs' : s ≤ m') (hz : trn (qa l k) (qa l i) (qa l (k + s)) = 0) : s = 0 ∨ s = m' := by
  obtain ⟨h, hm, hm', hs, hk, hi, hkt⟩ := id C
  by_cases h0 : s = 0
  · exact .inl h0
  by_cases h1 : s = m'
  · exact .inr h1
  exfalso
  have := triple h.cv k s (by omega) (m' - s - 1) (by omega)
  rw [show k + (s + (m' - s - 1) + 1) = k + m' by omega, hi] at this
  have e : trn (qa l k) (qa l i) (qa l (k + s)) = - trn (qa l k) (qa l (k + s)) (qa l i) := by unfold trn; grind
  omega
theorem edge_arc {l a : List Pt} {j n : Nat} {e : Pt × Pt} (ea : a = arc l j n) (he : e ∈ edgesL a) : (∃ t, t < n ∧ e = (qa l (j + t), qa l (j + t + 1))) ∨ e = (qa l (j + n), qa l j) := by
  subst ea
  obtain ⟨t, ht, rfl⟩ := mem_edges.1 he
  rw [arc_len] at ht ⊢
  by_cases e : t = n
  · subst e
    rw [Nat.mod_self, arc_pa (Nat.le_refl _), arc_pa (Nat.zero_le _), Nat.add_zero]
    exact .inr rfl
  · rw [Nat.mod_eq_of_lt (by omega), arc_pa (by omega), arc_pa (by omega)]
    exact .inl ⟨t, by omega, rfl⟩
theorem cand_diag {l : List Pt} {i k m m' : Nat} (C : CutAt l i k m m') : cand (qa l k, qa l i) (qa l i, qa l k) = some (qa l k, qa l i) := by
  obtain ⟨h, hm, hm', hs, hk, hi, hkt⟩ := id C
  have hne := diag_ne C
  generalize qa l k = P at *
  generalize qa l i = Q at *
  unfold cand
  rw [if_neg (by simp only [trn_self1, trn_self2]; simp)]
  have z : ordS P Q ≠ 0 := fun e => hne (ord_z.1 e)
  have ll : ∀ u v : Pt, lo u v = lo v u := fun u v => by
    unfold lo
    split <;> split <;> rename_i h1 h2
    · rw [ord_lt] at h1 h2; omega
    · rfl
    · rfl
    · have : ordS u v = 0 := by
        have h3 : ¬ 0 < ordS u v := fun q => h1 (by rw [ord_lt]; rw [ord_gt] at q; omega)
        omega
      exact ord_z.1 this
  have hh : ∀ u v : Pt, Am.hi u v = Am.hi v u := fun u v => by
    unfold Am.hi
    split <;> split <;> rename_i h1 h2
    · rw [ord_lt] at h1 h2; omega
    · rfl
    · rfl
    · have : ordS u v = 0 := by
        have h3 : ¬ 0 < ordS u v := fun q => h1 (by rw [ord_lt]; rw [ord_gt] at q; omega)
        omega
      exact (ord_z.1 this).symm
  have mx : ∀ u : Pt, maxO u u = u := fun u => by unfold maxO; split <;> rfl
  have mn : ∀ u : Pt, minO u u = u := fun u => by unfold minO; split <;> rfl
  have ec : comS P Q Q P = (lo P Q, Am.hi P Q) := by
    unfold comS
    rw [ll Q P, hh Q P, mx, mn]
  rw [ec]
  by_cases hg : 0 < ordS P Q
  · have h1 : ordS Q P < 0 := by rw [ord_lt]; rw [ord_gt] at hg; exact hg
    have e1 : lo P Q = Q := if_pos h1
    have e2 : Am.hi P Q = P := if_pos h1
    simp only [e1, e2]
    rw [if_neg (by
      rintro (q | q)
      · exact hne q.symm
      · omega), if_pos hg]
  · have h1 : ¬ ordS Q P < 0 := fun q => hg (by rw [ord_gt]; rw [ord_lt] at q; exact q)
    have e1 : lo P Q = P := if_neg h1
    have e2 : Am.hi P Q = Q := if_neg h1
    simp only [e1, e2]
    rw [if_neg (by
      rintro (q | q)
      · exact hne q
      · exact hg q), if_neg hg]
theorem cut_seam {l : List Pt} {i k m m' : Nat} (C : CutAt l i k m m') : seam1 (arc l i m) (arc l k m') = some (qa l k, qa l i) := by
  obtain ⟨h, hm, hm', hs, hk, hi, hkt⟩ := id C
  have all : ∀ e ∈ edgesL (arc l i m), ∀ f ∈ edgesL (arc l k m'), ∀ s, cand e f = some s → s = (qa l k, qa l i) := by
    intro e he f hf s hs'
    have hz : trn e.1 e.2 f.1 = 0 ∧ trn e.1 e.2 f.2 = 0 := by
      unfold cand at hs'
      split at hs'
      · cases hs'
      · rename_i q
        constructor
        · by_cases z : trn e.1 e.2 f.1 = 0
          · exact z
          · exact absurd (.inl z) q
        · by_cases z : trn e.1 e.2 f.2 = 0
          · exact z
          · exact absurd (.inr z) q
    rcases edge_arc rfl he with ⟨t, ht, rfl⟩ | rfl <;> rcases edge_arc rfl hf with ⟨s', hs2, rfl⟩ | rfl
    · have h1 := first_edge C ht (by omega : s' ≤ m') hz.1
      have h2 := first_edge C ht (by omega : s' + 1 ≤ m') hz.2
      omega
    · have h1 := first_edge C ht (Nat.le_refl m') hz.1
      have h2 := first_edge C ht (Nat.zero_le m') (by rw [Nat.add_zero]; exact hz.2)
      omega
    · simp only [hk] at hz
      have h1 := diag_corner C (by omega : s' ≤ m') hz.1
      have h2 := diag_corner C (by omega : s' + 1 ≤ m') hz.2
      omega
    · rw [hk, hi, cand_diag C] at hs'
      exact (Option.some.inj hs').symm
  have e0 : (qa l k, qa l i) ∈ edgesL (arc l i m) := mem_edges.2 ⟨m, by rw [arc_len]; omega, by
    rw [arc_len, Nat.mod_self, arc_pa (Nat.le_refl _), arc_pa (Nat.zero_le _), hk, Nat.add_zero]⟩
  have f0 : (qa l i, qa l k) ∈ edgesL (arc l k m') := mem_edges.2 ⟨m', by rw [arc_len]; omega, by
    rw [arc_len, Nat.mod_self, arc_pa (Nat.le_refl _), arc_pa (Nat.zero_le _), hi, Nat.add_zero]⟩
  unfold seam1
  cases hc : (edgesL (arc l i m)).findSome? fun e => (edgesL (arc l k m')).findSome? (cand e) with
  | none =>
    rw [List.findSome?_eq_none_iff] at hc
    have := hc _ e0
    rw [List.findSome?_eq_none_iff] at this
    have := this _ f0
    rw [cand_diag C] at this
    cases this
  | some s =>
    obtain ⟨e, he, hc⟩ := List.exists_of_findSome?_eq_some hc
    obtain ⟨f, hf, hc⟩ := List.exists_of_findSome?_eq_some hc
    rw [all e he f hf s hc]
/-- Every edge of the whole is one of a part. -/
theorem edge_part {l : List Pt} {i k m m' : Nat} (C : CutAt l i k m m') (j : Nat) : (∃ t, t < m ∧ ∀ p, E l (j % l.length) p = E (arc l i m) t p) ∨ ∃ t, t < m' ∧ ∀ p, E l (j % l.length) p = E (arc l k m') t p := by
  obtain ⟨h, hm, hm', hs, hk, hi, hkt⟩ := id C
  have l3 := h.l3
  have hn : 0 < l.length := by omega
  have hst := stp_lt (n := l.length) (i := i % l.length) (k := j % l.length) hn
  have ha := stp_at (Nat.mod_lt i hn) (Nat.mod_lt j hn)
  rw [Nat.mod_add_mod] at ha
  have e : ∀ p, E l (j % l.length) p = trn (qa l (i + stp l.length (i % l.length) (j % l.length))) (qa l (i + stp l.length (i % l.length) (j % l.length) + 1)) p := fun p => by
    rw [E_qa hn, ha]
  generalize stp l.length (i % l.length) (j % l.length) = t at *
  by_cases c : t < m
  · exact .inl ⟨t, c, fun p => by rw [e, arc_E c]⟩
  · refine .inr ⟨t - m, by omega, fun p => ?_⟩
    rw [e, arc_E (by omega)]
    have q1 : qa l (i + t) = qa l (k + (t - m)) := by rw [← hkt]; congr 1; omega
    have q2 : qa l (i + t + 1) = qa l (k + (t - m) + 1) := by rw [show k + (t - m) + 1 = k + (t - m + 1) by omega, ← hkt]; congr 1; omega
    rw [q1, q2]
theorem part_edge1 {l : List Pt} {i k m m' : Nat} (C : CutAt l i k m m') {t : Nat} (ht : t < m) (p : Pt) : E (arc l i m) t p = E l ((i + t) % l.length) p := by
  obtain ⟨h, hm, hm', hs, hk, hi, hkt⟩ := id C
  rw [arc_E ht, E_qa (by omega)]
theorem part_edge2 {l : List Pt} {i k m m' : Nat} (C : CutAt l i k m m') {t : Nat} (ht : t < m') (p : Pt) : E (arc l k m') t p = E l ((k + t) % l.length) p := by
  obtain ⟨h, hm, hm', hs, hk, hi, hkt⟩ := id C
  rw [arc_E ht, E_qa (by omega)]
theorem diag1 {l : List Pt} {i k m m' : Nat} (C : CutAt l i k m m') (p : Pt) : E (arc l i m) m p = trn (qa l k) (qa l i) p := by
  obtain ⟨h, hm, hm', hs, hk, hi, hkt⟩ := id C
  rw [arc_E_end, hk]
theorem diag2 {l : List Pt} {i k m m' : Nat} (C : CutAt l i k m m') (p : Pt) : E (arc l k m') m' p = - trn (qa l k) (qa l i) p := by
  obtain ⟨h, hm, hm', hs, hk, hi, hkt⟩ := id C
  rw [arc_E_end, hi, trn_swap]
theorem part_inn {l : List Pt} {i k m m' : Nat} (C : CutAt l i k m m') {a : List Pt} (h0 : 0 < a.length) (hsub : ∀ q ∈ a, q ∈ l) {p : Pt} (hp : inn a p) : inn l p := by
  obtain ⟨h, hm, hm', hs, hk, hi, hkt⟩ := id C
  have l3 := h.l3
  intro j hj
  rcases Int.lt_or_le 0 (E l j p) with q | q
  · exact q
  exfalso
  have hmj : (j + 1) % l.length < l.length := Nat.mod_lt _ (by omega)
  have hv := h.ne hj
  refine inn_half h0 hp (g := ((pa l j).2 - (pa l ((j + 1) % l.length)).2, (pa l ((j + 1) % l.length)).1 - (pa l j).1)) (fun e => hv (by
    have e1 := congrArg Prod.fst e
    have e2 := congrArg Prod.snd e
    simp only at e1 e2
    exact Prod.ext (by omega) (by omega))) fun x hx => ?_
  obtain ⟨t, ht, rfl⟩ := pa_of (hsub x hx)
  have := q_nn h j t
  rw [qa_lt ht, E_qa (by omega), Nat.mod_eq_of_lt hj] at this
  have e : lin ((pa l j).2 - (pa l ((j + 1) % l.length)).2, (pa l ((j + 1) % l.length)).1 - (pa l j).1) p (pa l t) = E l j (pa l t) - E l j p := by
    unfold E lin trn; grind
  omega
theorem cut_inn {l : List Pt} {i k m m' : Nat} (C : CutAt l i k m m') (p : Pt) : inn l p ↔ inn (arc l i m) p ∨ inn (arc l k m') p ∨ ((clo (arc l i m) p ∧ clo (arc l k m') p) ∧ p ≠ qa l i ∧ p ≠ qa l k) := by
  obtain ⟨h, hm, hm', hs, hk, hi, hkt⟩ := id C
  have l3 := h.l3
  have hn : 0 < l.length := by omega
  constructor
  · intro hp
    have c1 : ∀ t, t < m → 0 < E (arc l i m) t p := fun t ht => by rw [part_edge1 C ht]; exact hp _ (Nat.mod_lt _ hn)
    have c2 : ∀ t, t < m' → 0 < E (arc l k m') t p := fun t ht => by rw [part_edge2 C ht]; exact hp _ (Nat.mod_lt _ hn)
    have d1 := diag1 C p
    have d2 := diag2 C p
    rcases Int.lt_trichotomy 0 (trn (qa l k) (qa l i) p) with q | q | q
    · refine .inl fun t ht => ?_
      rw [arc_len] at ht
      by_cases e : t = m
      · rw [e]; omega
      · exact c1 t (by omega)
    · refine .inr (.inr ⟨⟨fun t ht => ?_, fun t ht => ?_⟩, ?_, ?_⟩)
      · rw [arc_len] at ht
        by_cases e : t = m
        · rw [e]; omega
        · exact Int.le_of_lt (c1 t (by omega))
      · rw [arc_len] at ht
        by_cases e : t = m'
        · rw [e]; omega
        · exact Int.le_of_lt (c2 t (by omega))
      · intro e
        have := hp (i % l.length) (Nat.mod_lt _ hn)
        rw [← E_qa hn, e, trn_self1] at this
        omega
      · intro e
        have := hp (k % l.length) (Nat.mod_lt _ hn)
        rw [← E_qa hn, e, trn_self1] at this
        omega
    · refine .inr (.inl fun t ht => ?_)
      rw [arc_len] at ht
      by_cases e : t = m'
      · rw [e]; omega
      · exact c2 t (by omega)
  · rintro (hp | hp | ⟨⟨p1, p2⟩, n1, n2⟩)
    · exact part_inn C (by rw [arc_len]; omega) (fun q hq => arc_mem hn hq) hp
    · exact part_inn C (by rw [arc_len]; omega) (fun q hq => arc_mem hn hq) hp
    · have z : trn (qa l k) (qa l i) p = 0 := by
        have a1 := p1 m (by rw [arc_len]; omega)
        have a2 := p2 m' (by rw [arc_len]; omega)
        rw [diag1 C] at a1
        rw [diag2 C] at a2
        omega
      have nn : ∀ j, 0 ≤ E l (j % l.length) p := fun j => by
        rcases edge_part C j with ⟨t, ht, e⟩ | ⟨t, ht, e⟩
        · rw [e]; exact p1 t (by rw [arc_len]; omega)
        · rw [e]; exact p2 t (by rw [arc_len]; omega)
      intro j hj
      have f0 := nn j
      rw [Nat.mod_eq_of_lt hj] at f0
      rcases Int.lt_or_eq_of_le f0 with q | q
      · exact q
      exfalso
      -- how far along the diagonal the place is, seen from its two ends
      have A : 0 < trn (qa l i) (qa l (i + 1)) (qa l k) := by rw [← hk]; exact conv_q h.cv hm (by omega)
      have B : 0 < trn (qa l k) (qa l (k + 1)) (qa l i) := by rw [← hi]; exact conv_q h.cv hm' (by omega)
      have α : 0 ≤ trn (qa l i) (qa l (i + 1)) p := by rw [E_qa hn]; exact nn i
      have β : 0 ≤ trn (qa l k) (qa l (k + 1)) p := by rw [E_qa hn]; exact nn k
      have z2 : trn (qa l i) (qa l k) p = 0 := by rw [trn_swap]; omega
      have α' : trn (qa l i) (qa l (i + 1)) p ≠ 0 := fun e => n1 (trn_z e z2 (by omega))
      have β' : trn (qa l k) (qa l (k + 1)) p ≠ 0 := fun e => n2 (trn_z e z (by omega))
      have g1 := q_nn h j i
      have g2 := q_nn h j k
      have fp : trn (qa l j) (qa l (j + 1)) p = 0 := by rw [E_qa hn, Nat.mod_eq_of_lt hj]; omega
      -- what counts along a line
      have along : ∀ u w : Pt, (trn u w p - trn u w (qa l i)) * trn (qa l i) (qa l (i + 1)) (qa l k) = (trn u w (qa l k) - trn u w (qa l i)) * trn (qa l i) (qa l (i + 1)) p := fun u w => by
        have := along_id u w p (qa l i) (qa l k) (qa l (i + 1))
        rw [z2, Int.neg_zero, Int.zero_mul] at this
        omega
      have al2 := along (qa l k) (qa l (k + 1))
      rw [trn_self1] at al2
      have al1 := along (qa l j) (qa l (j + 1))
      rw [fp] at al1
      -- both ends are on the edge's line
      have both : trn (qa l j) (qa l (j + 1)) (qa l i) = 0 ∧ trn (qa l j) (qa l (j + 1)) (qa l k) = 0 := by
        generalize trn (qa l i) (qa l (i + 1)) (qa l k) = A' at *
        generalize trn (qa l k) (qa l (k + 1)) (qa l i) = B' at *
        generalize trn (qa l i) (qa l (i + 1)) p = a' at *
        generalize trn (qa l k) (qa l (k + 1)) p = b' at *
        generalize trn (qa l j) (qa l (j + 1)) (qa l i) = x at *
        generalize trn (qa l j) (qa l (j + 1)) (qa l k) = y at *
        have e1 : B' * (A' - a') = A' * b' := by grind
        have e2 := Int.mul_pos A (show 0 < b' by omega)
        have e3 : 0 < A' - a' := pos_of_mul B (by omega)
        have e4 : x * (A' - a') + y * a' = 0 := by grind
        have e5 := Int.mul_nonneg g1 (Int.le_of_lt e3)
        have e6 := Int.mul_nonneg g2 α
        have e7 : x * (A' - a') = 0 := by omega
        have e8 : y * a' = 0 := by omega
        rcases Int.mul_eq_zero.1 e7 with c | c
        · rcases Int.mul_eq_zero.1 e8 with c' | c'
          · exact ⟨c, c'⟩
          · omega
        · omega
      rcases edge_part C j with ⟨t, ht, e⟩ | ⟨t, ht, e⟩
      · have b1 := both.1
        have b2 := both.2
        rw [E_qa hn, e, arc_E ht] at b1 b2
        have k1 := first_edge C ht (Nat.le_refl m') (by rw [hi]; exact b1)
        have k2 := first_edge C ht (Nat.zero_le m') (by rw [Nat.add_zero]; exact b2)
        omega
      · have b1 := both.1
        have b2 := both.2
        rw [E_qa hn, e, arc_E ht] at b1 b2
        -- the same seen from the other part
        by_cases c1 : t = 0
        · subst c1
          rw [Nat.add_zero] at b1
          omega
        · have := conv_q h.cv (s := k + t) (a := l.length - t) (by omega) (by omega)
          rw [show k + t + (l.length - t) = k + l.length by omega, qa_add] at this
          omega
end Go.Proofs.Ytojciffnkbfbhaa.Am
