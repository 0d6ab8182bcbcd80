import Derived.Test.YtojciffnkbfbhaaME
import Derived.Test.YtojciffnkbfbhaaM1
import Derived.Test.YtojciffnkbfbhaaL4
/-
  Plain laws: PlaneCuts.
-/
namespace Go.Proofs.Ytojciffnkbfbhaa.Am
set_option linter.unusedSimpArgs false
set_option linter.unusedVariables false
theorem lpick_eq {N : Nat} {c n : Int} (hc : I64 c) (hn : 0 < n) : D_putloglaw07_pick N c n = some (pk c n) := by
  unfold D_putloglaw07_pick pk
  unfold I64 at hc
  by_cases h : c < 0
  · rw [decide_eq_true h, cT, if_pos h, gd_of (by unfold I64; omega), gd_of (by unfold I64; omega), gd_of (by omega)]
  · rw [decide_eq_false h, cF, if_neg h, gd_of (by omega)]
noncomputable def ins (l : List Pt) (p : Pt) : Int := if On p then sd l p else -1
theorem ins_eq {N : Nat} (hN : 100 ≤ N) {l : List Pt} (h : VP l) (x y : Int) : D_plane_Inside N l x y = some (ins l (x, y)) := inside_eq hN h (x, y)
theorem ins_on {l : List Pt} {p : Pt} (ho : On p) : ins l p = sd l p := if_pos ho
theorem cut_at {l : List Pt} (h : VP l) {i k : Nat} (hi : i < l.length) (hk : k < l.length) (h1 : 2 ≤ stp l.length i k) (h2 : 2 ≤ stp l.length k i) : CutAt l i k (stp l.length i k) (stp l.length k i) := by
  have hne : i ≠ k := by
    rintro rfl
    rw [stp_le (Nat.le_refl _) hi] at h1
    omega
  have s1 := stp_at hi hk
  have s2 := stp_at hk hi
  refine ⟨h, h1, h2, stp_sum hi hk hne, ?_, ?_, fun t => ?_⟩
  · rw [← qa_mod, s1]
  · rw [← qa_mod, s2]
  · rw [← Nat.add_assoc]
    unfold qa
    congr 1
    rw [Nat.add_mod, s1, ← Nat.mod_eq_of_lt hk, ← Nat.add_mod, Nat.mod_eq_of_lt hk]
theorem near {n i k : Nat} (hi : i < n) (hk : k < n) (hn : 3 ≤ n) : (i = k ∨ (i + 1) % n = k ∨ (k + 1) % n = i) ↔ (stp n i k < 2 ∨ stp n k i < 2) := by
  have a1 : (i + 1) % n = if i + 1 = n then 0 else i + 1 := by
    split
    · rename_i h; rw [h, Nat.mod_self]
    · exact Nat.mod_eq_of_lt (by omega)
  have a2 : (k + 1) % n = if k + 1 = n then 0 else k + 1 := by
    split
    · rename_i h; rw [h, Nat.mod_self]
    · exact Nat.mod_eq_of_lt (by omega)
  rw [a1, a2]
  rcases Nat.lt_trichotomy i k with q | q | q
  · rw [stp_le (by omega) hk, stp_gt q hk]
    split <;> split <;> omega
  · subst q
    rw [stp_le (by omega) hk]
    simp
  · rw [stp_gt q hi, stp_le (by omega) hi]
    split <;> split <;> omega
theorem pureCuts (x : List Pt) (i k px py : Int) (hx : In2 x) (h0 : I64 i) (h1 : I64 k) (h2 : I64 px) (h3 : I64 py) : D_putloglaw07_PlaneCuts 2000 x i k px py = some true := by
  unfold D_putloglaw07_PlaneCuts
  obtain ⟨l, el, hl⟩ := made_ok (N := 2000) (by omega) (by omega) hx (low := 0) (high := 40) (by omega) (by omega) (by omega)
  have hv := hl.vp
  have l3 := hv.l3
  have l8 := hv.l8
  have hsane : D_putloglaw07_sane 2000 = some true := by decide +kernel
  have b1 := @pk_bd i (l.length : Int) (by omega)
  have b2 := @pk_bd k (l.length : Int) (by omega)
  rw [hsane, bS, cF' _ (by rfl), el, bS, lpick_eq h0 (by omega), bS, lpick_eq h1 (by omega), bS]
  obtain ⟨i', hi'⟩ : ∃ j : Nat, pk i (l.length : Int) = j := ⟨(pk i (l.length : Int)).toNat, by omega⟩
  obtain ⟨k', hk'⟩ : ∃ j : Nat, pk k (l.length : Int) = j := ⟨(pk k (l.length : Int)).toNat, by omega⟩
  rw [hi'] at b1 ⊢
  rw [hk'] at b2 ⊢
  have hi : i' < l.length := by omega
  have hk : k' < l.length := by omega
  have n1 := near hi hk l3
  rw [pcut_eq (by omega) hv hi hk]
  by_cases hc : stp l.length i' k' < 2 ∨ stp l.length k' i' < 2
  · have n2 := n1.2 hc
    have ec : cutS l i' k' = ([], [], 70) := if_pos hc
    rw [ec, bS]
    simp only
    rw [tmod_nat, tmod_nat, gd_of (fun _ => by unfold I64; omega), gd_of (fun _ => by omega), gd_of (fun _ => by unfold I64; omega), gd_of (fun _ => by omega), cT' _ (by
      simp only [Bool.or_eq_true, decide_eq_true_eq]
      omega)]
    rfl
  have n2 : ¬ (i' = k' ∨ (i' + 1) % l.length = k' ∨ (k' + 1) % l.length = i') := fun q => hc (n1.1 q)
  have hne : i' ≠ k' := fun q => n2 (.inl q)
  have C := cut_at hv hi hk (by omega) (by omega)
  have su := cut_sums l hi hk hne
  have ec : cutS l i' k' = (arc l i' (stp l.length i' k'), arc l k' (stp l.length k' i'), 0) := if_neg hc
  have hsum := stp_sum hi hk hne
  have q1 : qa l k' = pa l k' := qa_lt hk
  have q2 : qa l i' = pa l i' := qa_lt hi
  rw [ec, bS]
  simp only
  generalize stp l.length i' k' = m at *
  generalize stp l.length k' i' = m' at *
  have va := arc_vp hv (i := i') C.hm (by omega)
  have vb := arc_vp hv (i := k') C.hm' (by omega)
  have hap := cut_apart C
  have hseam : seamS (arc l i' m) (arc l k' m') = ((pa l k', pa l i'), true) := by
    unfold seamS
    rw [if_pos hap, cut_seam C, q1, q2]
  have sA := seam_eq (N := 2000) (by omega) va vb
  rw [hseam] at sA
  have g1 : l.getD (k' : Int).toNat (0, 0) = pa l k' := by rw [Int.toNat_natCast]; rfl
  have g2 : l.getD (i' : Int).toNat (0, 0) = pa l i' := by rw [Int.toNat_natCast]; rfl
  rw [tmod_nat, tmod_nat, gd_of (fun _ => by unfold I64; omega), gd_of (fun _ => by omega), gd_of (fun _ => by unfold I64; omega), gd_of (fun _ => by omega), cF' _ (by
    rw [Bool.eq_false_iff]
    simp only [ne_eq, Bool.or_eq_true, decide_eq_true_eq]
    omega), sA, show ((pa l k', pa l i'), true) = ((((pa l k').1, (pa l k').2), ((pa l i').1, (pa l i').2)), true) from rfl, bS]
  simp only
  rw [valid_t (by omega) va, valid_t (by omega) vb, overlap_eq (by omega) va vb, sideS_t.2 hap, arc_len, arc_len, g1, g2, gd_of (fun _ => Option.isSome_some), gd_of (fun _ => Option.isSome_some), gd_of (fun _ => by unfold I64; omega), gd_of (fun _ => by unfold I64; omega), gd_of (fun _ => Option.isSome_some), gd_of (fun _ => ⟨by omega, by omega⟩), gd_of (fun _ => ⟨by omega, by omega⟩), cF' _ (by
    rw [Bool.eq_false_iff]
    simp
    omega)]
  have aA := area_b va
  have aB := area_b vb
  have mA := mom_b va
  have mB := mom_b vb
  obtain ⟨u1, u2, u3⟩ := su
  rw [mom_eq (by omega) va, bS]
  simp only
  rw [mom_eq (by omega) vb, bS]
  simp only
  rw [mom_eq (by omega) hv, bS]
  simp only
  rw [area_eq (by omega) va, bS, area_eq (by omega) vb, bS, gd_of (by unfold I64; omega), area_eq (by omega) hv, bS, gd_of (fun _ => by unfold I64; omega), gd_of (fun _ => by unfold I64; omega), cF' _ (by
    rw [Bool.eq_false_iff]
    simp only [ne_eq, Bool.or_eq_true, decide_eq_true_eq]
    omega), lpick_eq h2 (by omega), bS, lpick_eq h3 (by omega), bS]
  have p1 := @pk_bd px 41 (by omega)
  have p2 := @pk_bd py 41 (by omega)
  generalize pk px 41 = u at *
  generalize pk py 41 = v at *
  have hon : On (u, v) := by unfold On; simp only; omega
  rw [ins_eq (by omega) va, bS, ins_eq (by omega) vb, bS, ins_eq (by omega) hv, ins_on hon, ins_on hon, ins_on hon]
  have d1 := diag1 C (u, v)
  have d2 := diag2 C (u, v)
  rw [cF' _ (by
    rw [Bool.eq_false_iff]
    simp only [ne_eq, Bool.or_eq_true, Bool.and_eq_true, decide_eq_true_eq, sd_1, sd_nn]
    rintro (⟨w1, w2⟩ | ⟨w1, w2⟩)
    · have e1 := w1 m (by rw [arc_len]; omega)
      have e2 := w2 m' (by rw [arc_len]; omega)
      omega
    · have e1 := w1 m' (by rw [arc_len]; omega)
      have e2 := w2 m (by rw [arc_len]; omega)
      omega), gd_of (fun _ => ⟨by omega, by omega⟩), gd_of (fun _ => ⟨by omega, by omega⟩), bS]
  congr 1
  have ci := cut_inn C (u, v)
  rw [q1, q2] at ci
  have e1 : (decide (u = (pa l i').1) && decide (v = (pa l i').2)) = decide ((u, v) = pa l i') := ptE (p := (u, v))
  have e2 : (decide (u = (pa l k').1) && decide (v = (pa l k').2)) = decide ((u, v) = pa l k') := ptE (p := (u, v))
  rw [e1, e2, beq_iff_eq, Bool.eq_iff_iff]
  simp only [Bool.or_eq_true, Bool.and_eq_true, Bool.not_eq_true', decide_eq_true_eq, decide_eq_false_iff_not, sd_1, sd_0]
  rw [ci]
  constructor
  · rintro (w | w | ⟨⟨w1, w2⟩, w3, w4⟩)
    · exact .inl (.inl w)
    · exact .inl (.inr w)
    · by_cases z1 : inn (arc l i' m) (u, v)
      · exact .inl (.inl z1)
      by_cases z2 : inn (arc l k' m') (u, v)
      · exact .inl (.inr z2)
      exact .inr ⟨⟨⟨⟨w1, z1⟩, w2, z2⟩, w3⟩, w4⟩
  · rintro ((w | w) | ⟨⟨⟨⟨w1, z1⟩, w2, z2⟩, w3⟩, w4⟩)
    · exact .inl w
    · exact .inr (.inl w)
    · exact .inr (.inr ⟨⟨w1, w2⟩, w3, w4⟩)
end Go.Proofs.Ytojciffnkbfbhaa.Am
