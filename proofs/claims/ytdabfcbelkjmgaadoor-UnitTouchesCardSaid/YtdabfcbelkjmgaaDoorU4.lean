import Derived.Test.YtdabfcbelkjmgaaDoorU3
import Derived.Test.YtdabfcbelkjmgaaDoorMI
import Derived.Test.YtdabfcbelkjmgaaDoorL4
/-
  UnitTouches.
-/
namespace Go.Proofs.YtdabfcbelkjmgaaDoor.Am
set_option linter.unusedSimpArgs false
set_option linter.unusedVariables false
theorem on_seam {a b : List Pt} (ha : VP a) (hb : VP b) {s : Pt × Pt} {j t : Nat} (hj : j < a.length) (ht : t < b.length) (hc : cand (pa a j, pa a ((j + 1) % a.length)) (pa b t, pa b ((t + 1) % b.length)) = some s) : On s.1 ∧ On s.2 := by
  have h1 : ∀ u v : Pt, On u → On v → On (lo u v) ∧ On (Am.hi u v) ∧ On (maxO u v) ∧ On (minO u v) := fun u v a b => by
    unfold lo Am.hi maxO minO
    refine ⟨?_, ?_, ?_, ?_⟩ <;> split <;> assumption
  obtain ⟨_, _, _, _, es⟩ := cand_some hc
  have q0 := ha.on _ (pa_mem hj)
  have q1 := ha.on _ (pa_mem (Nat.mod_lt (j + 1) (show 0 < a.length by omega)))
  have q2 := hb.on _ (pa_mem ht)
  have q3 := hb.on _ (pa_mem (Nat.mod_lt (t + 1) (show 0 < b.length by omega)))
  have r1 := (h1 _ _ (h1 _ _ q0 q1).1 (h1 _ _ q2 q3).1).2.2.1
  have r2 := (h1 _ _ (h1 _ _ q0 q1).2.1 (h1 _ _ q2 q3).2.1).2.2.2
  rw [es]
  split
  · exact ⟨r2, r1⟩
  · exact ⟨r1, r2⟩

theorem seam_ends {a b : List Pt} (ha : VP a) (hb : VP b) (hap : apart a b) {s : Pt × Pt} (h : seam1 a b = some s) : SeamOK a b s ∧ (On s.1 ∧ On s.2) ∧ (ins a s.1 = 0 ∧ ins b s.1 = 0) ∧ (ins a s.2 = 0 ∧ ins b s.2 = 0) := by
  obtain ⟨j, t, hj, ht, hc⟩ := seam1_some h
  obtain ⟨ok, _, _, _, _⟩ := cand_ok ha hb hap hj ht hc
  have ho := on_seam ha hb hj ht hc
  have b1 : trn s.1 s.2 s.1 = 0 ∧ btw s.1 s.2 s.1 := by
    refine ⟨by unfold trn; grind, ?_⟩
    unfold btw lexle
    omega
  have b2 : trn s.1 s.2 s.2 = 0 ∧ btw s.1 s.2 s.2 := by
    refine ⟨by unfold trn; grind, ?_⟩
    unfold btw lexle
    omega
  have k1 := (ok.on s.1).2 b1
  have k2 := (ok.on s.2).2 b2
  exact ⟨ok, ho, ⟨(ins_0 ho.1).2 k1.1, (ins_0 ho.1).2 k1.2⟩, ⟨(ins_0 ho.2).2 k2.1, (ins_0 ho.2).2 k2.2⟩⟩
theorem touch_L1 {N : Nat} (hN : 100 ≤ N) {a b : List Pt} (ha : VP a) (hb : VP b) {s : Pt × Pt} (h1 : ins a s.1 = 0 ∧ ins b s.1 = 0) (h2 : ins a s.2 = 0 ∧ ins b s.2 = 0) (n : Nat) : D_putloglaw08_UnitTouches_L1 N s.1.1 s.1.2 s.2.1 s.2.2 a b (n + 1 + 1 + 1) 0 = some (.inl ()) := by
  rw [D_putloglaw08_UnitTouches_L1, cT' _ (by rfl), show nth [(s.1.1, s.1.2), (s.2.1, s.2.2)] 0 = some (s.1.1, s.1.2) from rfl, bS]
  simp only
  rw [ins_eq hN ha, ins_eq hN hb, bS, show ins a (s.1.1, s.1.2) = 0 from h1.1, show ins b (s.1.1, s.1.2) = 0 from h1.2, gd_t (fun _ => Option.isSome_some), cF' _ (by rfl), gd_of (by unfold I64; omega)]
  rw [D_putloglaw08_UnitTouches_L1, cT' _ (by rfl), show nth [(s.1.1, s.1.2), (s.2.1, s.2.2)] (0 + 1) = some (s.2.1, s.2.2) from rfl, bS]
  simp only
  rw [ins_eq hN ha, ins_eq hN hb, bS, show ins a (s.2.1, s.2.2) = 0 from h2.1, show ins b (s.2.1, s.2.2) = 0 from h2.2, gd_t (fun _ => Option.isSome_some), cF' _ (by rfl), gd_of (by unfold I64; omega)]
  rw [D_putloglaw08_UnitTouches_L1, cF' _ (by rfl)]

theorem pureTouches (x y : List Pt) (how p0 p1 p2 p3 q0 q1 q2 q3 : Int) (hx : In2 x) (hy : In2 y) (h0 : I64 how) (g0 : I64 p0) (g1 : I64 p1) (g2 : I64 p2) (g3 : I64 p3) (f0 : I64 q0) (f1 : I64 q1) (f2 : I64 q2) (f3 : I64 q3) : D_putloglaw08_UnitTouches 2000 x y how p0 p1 p2 p3 q0 q1 q2 q3 = some true := by
  unfold D_putloglaw08_UnitTouches
  obtain ⟨a, b, c, l, p, q, a', b', c', l', p', q', e, u, u'⟩ := pair8_ok (N := 2000) (by omega) (by omega) hx hy h0 g0 g1 g2 g3 f0 f1 f2 f3
  have hsane : D_putloglaw08_sane 2000 = some true := by decide +kernel
  have hd := u.d
  have hd' := u'.d
  rw [hsane, bS, cF' _ (by rfl), e, bS]
  simp only
  rw [utouch_eq (by omega) u u', utouch_eq (by omega) u' u, uoverlap_eq (by omega) u u', uoverlap_eq (by omega) u' u, Int.max_comm p' p, Int.min_comm q' q]
  have sd2 : (sideS l' l).2.2 = (sideS l l').2.2 := by
    cases h : (sideS l l').2.2 with
    | true => exact sideS_t.2 (sideS_t.1 h).symm
    | false =>
      cases h2 : (sideS l' l).2.2 with
      | false => rfl
      | true => rw [sideS_t.2 (sideS_t.1 h2).symm] at h; exact h
  rw [sd2]
  by_cases hz : touchS a a' l l' p q p' q' = (con0, false) ∧ touchS a' a l' l p' q' p q = (con0, false)
  · rw [hz.1, hz.2, bS]
    simp only
    rw [bS]
    simp only
    rw [gd_t (fun _ => Option.isSome_some), gd_t (fun _ => Option.isSome_some), gd_t (fun _ => Option.isSome_some), cF' _ (by simp), cT' _ (by rfl)]
    rfl
  by_cases hc : max p p' < min q q'
  · by_cases hap : apart l l'
    · have sw := seam1_swap u.l u'.l hap
      cases h : seam1 l l' with
      | none =>
        rw [h] at sw
        refine absurd ⟨?_, ?_⟩ hz
        · unfold touchS seamS
          rw [if_pos hc, if_pos hap, h]; rfl
        · unfold touchS seamS
          rw [Int.max_comm p' p, Int.min_comm q' q, if_pos hc, if_pos hap.symm, sw]; rfl
      | some s =>
        rw [h] at sw
        obtain ⟨ok, ho, i1, i2⟩ := seam_ends u.l u'.l hap h
        have e1 : touchS a a' l l' p q p' q' = ((a, a', s, max p p', min q q'), true) := by
          unfold touchS seamS
          rw [if_pos hc, if_pos hap, h]; rfl
        have e2 : touchS a' a l' l p' q' p q = ((a', a, (s.2, s.1), max p p', min q q'), true) := by
          unfold touchS seamS
          rw [Int.max_comm p' p, Int.min_comm q' q, if_pos hc, if_pos hap.symm, sw]; rfl
        have hs : (sideS l l').2.2 = true := sideS_t.2 hap
        rw [e1, e2, bS]
        simp only
        rw [bS]
        simp only
        rw [gd_t (fun _ => Option.isSome_some), gd_t (fun _ => Option.isSome_some), gd_t (fun _ => Option.isSome_some), hs, cF' _ (by simp), cF' _ (by rfl)]
        rw [touch_L1 (N := 2000) (by omega) u.l u'.l i1 i2 1997, bS]
        simp only
        have ne : (decide (s.1.1 = s.2.1) && decide (s.1.2 = s.2.2)) = false := by rw [ptE]; exact decide_eq_false ok.ne
        rw [ne]
        congr 1
        simp only [decide_true, Bool.and_true, Bool.not_false, Bool.true_and, Bool.and_eq_true, decide_eq_true_eq]
        omega
    · refine absurd ⟨?_, ?_⟩ hz
      · unfold touchS seamS
        rw [if_pos hc, if_neg hap]; rfl
      · unfold touchS seamS
        rw [Int.max_comm p' p, Int.min_comm q' q, if_pos hc, if_neg fun h => hap h.symm]; rfl
  · refine absurd ⟨?_, ?_⟩ hz
    · unfold touchS
      rw [if_neg hc]
    · unfold touchS
      rw [Int.max_comm p' p, Int.min_comm q' q, if_neg hc]
end Go.Proofs.YtdabfcbelkjmgaaDoor.Am
