import Derived.Test.YtdabfcbelkjmgaaDoorU3
import Derived.Test.YtdabfcbelkjmgaaDoorME
import Derived.Test.YtdabfcbelkjmgaaDoorL5

/-
  Plain laws: PlaneCuts.
-/
namespace Go.Proofs.YtdabfcbelkjmgaaDoor.Am
set_option linter.unusedSimpArgs false
set_option linter.unusedVariables false
theorem cut_apart {l : List Pt} {i k m m' : Nat} (C : CutAt l i k m m') : apart (arc l i m) (arc l k m') := by
  obtain ⟨h, hm, hm', hs, hk, hi, hkt⟩ := id C
  refine .inl ⟨m, by rw [arc_len]; omega, fun p hp => ?_⟩
  obtain ⟨s, hs', rfl⟩ := mem_arc.1 hp
  rw [arc_E_end, hk, ← hi]
  by_cases h0 : s = 0
  · subst h0; rw [Nat.add_zero, trn_self1]; omega
  by_cases h1 : s = m'
  · subst h1; rw [trn_self2]; omega
  have := triple h.cv k s (by omega) (m' - s - 1) (by omega)
  rw [show k + (s + (m' - s - 1) + 1) = k + m' by omega] at this
  have e : trn (qa l k) (qa l (k + m')) (qa l (k + s)) = - trn (qa l k) (qa l (k + s)) (qa l (k + m')) := by unfold trn; grind
  omega
theorem cut_seam {l : List Pt} {i k m m' : Nat} (C : CutAt l i k m m') : seam1 (arc l i m) (arc l k m') = some (qa l k, qa l i) := by
  obtain ⟨h, hm, hm', hs, hk, hi, hkt⟩ := id C
  have all : ∀ e ∈ edgesL (arc l i m), ∀ f ∈ edgesL (arc l k m'), ∀ s, cand e f = some s → s = (qa l k, qa l i) := by
    intro e he f hf s hs'
    have hz : trn e.1 e.2 f.1 = 0 ∧ trn e.1 e.2 f.2 = 0 := by
      unfold cand at hs'
      split at hs'
      · cases hs'
      · rename_i q
        constructor
        · by_cases z : trn e.1 e.2 f.1 = 0
          · exact z
          · exact absurd (.inl z) q
        · by_cases z : trn e.1 e.2 f.2 = 0
          · exact z
          · exact absurd (.inr z) q
    rcases edge_arc rfl he with ⟨t, ht, rfl⟩ | rfl <;> rcases edge_arc rfl hf with ⟨s', hs2, rfl⟩ | rfl
    · have h1 := first_edge C ht (by omega : s' ≤ m') hz.1
      have h2 := first_edge C ht (by omega : s' + 1 ≤ m') hz.2
      omega
    · have h1 := first_edge C ht (Nat.le_refl m') hz.1
      have h2 := first_edge C ht (Nat.zero_le m') (by rw [Nat.add_zero]; exact hz.2)
      omega
    · simp only [hk] at hz
      have h1 := diag_corner C (by omega : s' ≤ m') hz.1
      have h2 := diag_corner C (by omega : s' + 1 ≤ m') hz.2
      omega
    · rw [hk, hi, cand_diag C] at hs'
      exact (Option.some.inj hs').symm
  have e0 : (qa l k, qa l i) ∈ edgesL (arc l i m) := mem_edges.2 ⟨m, by rw [arc_len]; omega, by
    rw [arc_len, Nat.mod_self, arc_pa (Nat.le_refl _), arc_pa (Nat.zero_le _), hk, Nat.add_zero]⟩
  have f0 : (qa l i, qa l k) ∈ edgesL (arc l k m') := mem_edges.2 ⟨m', by rw [arc_len]; omega, by
    rw [arc_len, Nat.mod_self, arc_pa (Nat.le_refl _), arc_pa (Nat.zero_le _), hi, Nat.add_zero]⟩
  unfold seam1
  cases hc : (edgesL (arc l i m)).findSome? fun e => (edgesL (arc l k m')).findSome? (cand e) with
  | none =>
    rw [List.findSome?_eq_none_iff] at hc
    have := hc _ e0
    rw [List.findSome?_eq_none_iff] at this
    have := this _ f0
    rw [cand_diag C] at this
    cases this
  | some s =>
    obtain ⟨e, he, hc⟩ := List.exists_of_findSome?_eq_some hc
    obtain ⟨f, hf, hc⟩ := List.exists_of_findSome?_eq_some hc
    rw [all e he f hf s hc]
theorem cut_at {l : List Pt} (h : VP l) {i k : Nat} (hi : i < l.length) (hk : k < l.length) (h1 : 2 ≤ stp l.length i k) (h2 : 2 ≤ stp l.length k i) : CutAt l i k (stp l.length i k) (stp l.length k i) := by
  have hne : i ≠ k := by
    rintro rfl
    rw [stp_le (Nat.le_refl _) hi] at h1
    omega
  have s1 := stp_at hi hk
  have s2 := stp_at hk hi
  refine ⟨h, h1, h2, stp_sum hi hk hne, ?_, ?_, fun t => ?_⟩
  · rw [← qa_mod, s1]
  · rw [← qa_mod, s2]
  · rw [← Nat.add_assoc]
    unfold qa
    congr 1
    rw [Nat.add_mod, s1, ← Nat.mod_eq_of_lt hk, ← Nat.add_mod, Nat.mod_eq_of_lt hk]
theorem near {n i k : Nat} (hi : i < n) (hk : k < n) (hn : 3 ≤ n) : (i = k ∨ (i + 1) % n = k ∨ (k + 1) % n = i) ↔ (stp n i k < 2 ∨ stp n k i < 2) := by
  have a1 : (i + 1) % n = if i + 1 = n then 0 else i + 1 := by
    split
    · rename_i h; rw [h, Nat.mod_self]
    · exact Nat.mod_eq_of_lt (by omega)
  have a2 : (k + 1) % n = if k + 1 = n then 0 else k + 1 := by
    split
    · rename_i h; rw [h, Nat.mod_self]
    · exact Nat.mod_eq_of_lt (by omega)
  rw [a1, a2]
  rcases Nat.lt_trichotomy i k with q | q | q
  · rw [stp_le (by omega) hk, stp_gt q hk]
    split <;> split <;> omega
  · subst q
    rw [stp_le (by omega) hk]
    simp
  · rw [stp_gt q hi, stp_le (by omega) hi]
    split <;> split <;> omega
end Go.Proofs.YtdabfcbelkjmgaaDoor.Am
/-
  UnitCuts (under way: what a part has in common with the whole).
-/
namespace Go.Proofs.YtdabfcbelkjmgaaDoor.Am
set_option linter.unusedSimpArgs false
set_option linter.unusedVariables false
/-- A polygon whose corners are corners of another one is not apart from it. -/
theorem not_apart_sub {a l : List Pt} (ha : VP a) (hl : VP l) (hsub : ∀ p ∈ a, p ∈ l) : ¬ apart a l := by
  have a3 := ha.l3
  rintro (⟨i, hi, hs⟩ | ⟨i, hi, hs⟩)
  · exact apart_self ha (.inl ⟨i, hi, fun p hp => hs p (hsub p hp)⟩)
  · have key : ∀ p ∈ a, p = pa l i ∨ p = pa l ((i + 1) % l.length) := fun p hp => by
      obtain ⟨k, hk, rfl⟩ := pa_of (hsub p hp)
      by_cases k1 : k = i
      · exact .inl (by rw [k1])
      by_cases k2 : k = (i + 1) % l.length
      · exact .inr (by rw [← k2])
      have h1 := hl.cv i k hi hk k1 k2
      have h2 : trn (pa l i) (pa l ((i + 1) % l.length)) (pa l k) ≤ 0 := hs _ hp
      omega
    have m1 : (0 + 1) % a.length = 1 := Nat.mod_eq_of_lt (by omega)
    have h := ha.cv 0 2 (by omega) (by omega) (by omega) (by rw [m1]; omega)
    rw [m1] at h
    have k0 := key _ (pa_mem (l := a) (i := 0) (by omega))
    have k1 := key _ (pa_mem (l := a) (i := 1) (by omega))
    have k2 := key _ (pa_mem (l := a) (i := 2) (by omega))
    have n01 : pa a 0 ≠ pa a 1 := fun e => by rw [e] at h; unfold trn at h; grind
    have n12 : pa a 1 ≠ pa a 2 := fun e => by rw [e] at h; unfold trn at h; grind
    have n02 : pa a 0 ≠ pa a 2 := fun e => by rw [e] at h; unfold trn at h; grind
    rcases k0 with k0 | k0 <;> rcases k1 with k1 | k1 <;> rcases k2 with k2 | k2
    all_goals first | exact n01 (k0.trans k1.symm) | exact n12 (k1.trans k2.symm) | exact n02 (k0.trans k2.symm)

theorem pureCuts (x y : List Pt) (how p0 p1 p2 p3 i k : Int) (hx : In2 x) (hy : In2 y) (hh : I64 how) (g0 : I64 p0) (g1 : I64 p1) (g2 : I64 p2) (g3 : I64 p3) (h0 : I64 i) (h1 : I64 k) : D_putloglaw08_UnitCuts 2000 x y how p0 p1 p2 p3 i k = some true := by
  unfold D_putloglaw08_UnitCuts
  obtain ⟨a, b, c, l, p, q, a', b', c', l', p', q', e, u, u'⟩ := pair8_ok (N := 2000) (by omega) (by omega) hx hy hh g0 g1 g2 g3 g0 g1 g2 g3
  have hsane : D_putloglaw08_sane 2000 = some true := by decide +kernel
  have hv := u.l
  have l3 := hv.l3
  have l8 := hv.l8
  have b1 := @pk_bd i (l.length : Int) (by omega)
  have b2 := @pk_bd k (l.length : Int) (by omega)
  rw [hsane, bS, cF' _ (by rfl), e, bS]
  simp only
  rw [lpick_eq h0 (by omega), bS, lpick_eq h1 (by omega), bS]
  obtain ⟨i', hi'⟩ : ∃ j : Nat, pk i (l.length : Int) = j := ⟨(pk i (l.length : Int)).toNat, by omega⟩
  obtain ⟨k', hk'⟩ : ∃ j : Nat, pk k (l.length : Int) = j := ⟨(pk k (l.length : Int)).toNat, by omega⟩
  rw [hi'] at b1 ⊢
  rw [hk'] at b2 ⊢
  have hi : i' < l.length := by omega
  have hk : k' < l.length := by omega
  have n1 := near hi hk l3
  rw [pcut_eq (by omega) hv hi hk]
  by_cases hc : stp l.length i' k' < 2 ∨ stp l.length k' i' < 2
  · have n2 := n1.2 hc
    have ec : cutS l i' k' = ([], [], 70) := if_pos hc
    have m1 := Nat.mod_eq_sub_mod (a := i' + 1) (b := l.length)
    have n3 : (i' : Int) - k' = 0 ∨ (i' : Int) - k' = 1 ∨ (i' : Int) - k' = -1 ∨ (i' : Int) - k' = (l.length : Int) - 1 ∨ (i' : Int) - k' = 1 - (l.length : Int) := by
      rcases n2 with q | q | q
      · omega
      · by_cases z : i' + 1 = l.length
        · rw [z, Nat.mod_self] at q; omega
        · rw [Nat.mod_eq_of_lt (by omega)] at q; omega
      · by_cases z : k' + 1 = l.length
        · rw [z, Nat.mod_self] at q; omega
        · rw [Nat.mod_eq_of_lt (by omega)] at q; omega
    rw [ec, bS]
    simp only
    rw [cT' _ (by rfl), gd_of (by unfold I64; omega), gd_of (fun _ => by unfold I64; omega), gd_of (fun _ => by unfold I64; omega)]
    congr 1
    simp only [Bool.or_eq_true, decide_eq_true_eq]
    omega
  have n2 : ¬ (i' = k' ∨ (i' + 1) % l.length = k' ∨ (k' + 1) % l.length = i') := fun q => hc (n1.1 q)
  have hne : i' ≠ k' := fun q => n2 (.inl q)
  have C := cut_at hv hi hk (by omega) (by omega)
  have su := cut_sums l hi hk hne
  have ec : cutS l i' k' = (arc l i' (stp l.length i' k'), arc l k' (stp l.length k' i'), 0) := if_neg hc
  have hsum := stp_sum hi hk hne
  have q1 : qa l k' = pa l k' := qa_lt hk
  have q2 : qa l i' = pa l i' := qa_lt hi
  rw [ec, bS]
  simp only
  generalize stp l.length i' k' = m at *
  generalize stp l.length k' i' = m' at *
  have va := arc_vp hv (i := i') C.hm (by omega)
  have vb := arc_vp hv (i := k') C.hm' (by omega)
  have hap := cut_apart C
  have hseam : seamS (arc l i' m) (arc l k' m') = ((pa l k', pa l i'), true) := by
    unfold seamS
    rw [if_pos hap, cut_seam C, q1, q2]
  have sub1 : ∀ x ∈ arc l i' m, x ∈ l := fun x hx => by
    obtain ⟨s, _, rfl⟩ := mem_arc.1 hx
    exact pa_mem (Nat.mod_lt _ (by omega))
  have sub2 : ∀ x ∈ arc l k' m', x ∈ l := fun x hx => by
    obtain ⟨s, _, rfl⟩ := mem_arc.1 hx
    exact pa_mem (Nat.mod_lt _ (by omega))
  have o1 := not_apart_sub va hv sub1
  have o2 : ¬ apart l (arc l k' m') := fun h => not_apart_sub vb hv sub2 h.symm
  have s0 : (sideS (arc l i' m) (arc l k' m')).2.2 = true := sideS_t.2 hap
  have s1 : (sideS (arc l i' m) l).2.2 = false := by rw [Bool.eq_false_iff]; exact fun h => o1 (sideS_t.1 h)
  have s2 : (sideS l (arc l k' m')).2.2 = false := by rw [Bool.eq_false_iff]; exact fun h => o2 (sideS_t.1 h)
  generalize arc l i' m = A at *
  generalize arc l k' m' = B at *
  have uA : UP a b c A p q := ⟨u.a, u.b, u.c, u.d, va⟩
  have uB : UP a b c B p q := ⟨u.a, u.b, u.c, u.d, vb⟩
  have w1 := u.d
  have w2 := den_bd u.c
  have mx : max p p = p := by omega
  have mn : min q q = q := by omega
  have ht : touchS a a A B p q p q = ((a, a, (pa l k', pa l i'), p, q), true) := by
    unfold touchS
    rw [mx, mn, if_pos w1.2.1, hseam]; rfl
  have aA := area_b va
  have aB := area_b vb
  have mA := (mom_b va).1
  have mB := (mom_b vb).1
  obtain ⟨u1, u2, _⟩ := su
  have x1 := mul_bd aA (y := q - p) (B := 8) (by omega) (by omega)
  have x2 := mul_bd aB (y := q - p) (B := 8) (by omega) (by omega)
  have x3 := mul_bd (x := 3 * (areaS A * (q - p))) (A := 400000000) (y := den c) (B := 10) (by omega) (by omega) (by omega)
  have x4 := mul_bd (x := 3 * (areaS B * (q - p))) (A := 400000000) (y := den c) (B := 10) (by omega) (by omega) (by omega)
  have x5 := mul_bd mA (y := q - p) (B := 8) (by omega) (by omega)
  have x6 := mul_bd mB (y := q - p) (B := 8) (by omega) (by omega)
  have x7 := mul_bd (x := momX A * (q - p)) (A := 170000000000) (y := den c) (B := 10) (by omega) (by omega) (by omega)
  have x8 := mul_bd (x := momX B * (q - p)) (A := 170000000000) (y := den c) (B := 10) (by omega) (by omega) (by omega)
  have y1 : areaS A * (q - p) + areaS B * (q - p) = areaS l * (q - p) := by rw [← u1]; grind
  have y2 : 3 * (areaS A * (q - p)) * den c + 3 * (areaS B * (q - p)) * den c = 3 * (areaS l * (q - p)) * den c := by rw [← u1]; grind
  have y3 : momX A * (q - p) * den c + momX B * (q - p) * den c = momX l * (q - p) * den c := by rw [← u2]; grind
  rw [cF' _ (by rfl), utouch_eq (by omega) uA uB, ht, bS]
  simp only
  rw [nth_pa hk, bS]
  simp only
  rw [nth_pa hi, bS]
  simp only
  rw [vol_eq (by omega) uA, bS, vol_eq (by omega) uB, bS, gd_of (by unfold I64; omega), vol_eq (by omega) u, bS, weight_eq (by omega) uA, weight_eq (by omega) uB, weight_eq (by omega) u, moment_eq (by omega) uA, moment_eq (by omega) uB, moment_eq (by omega) u, uvalid_t (by omega) uA, uvalid_t (by omega) uB, uoverlap_eq (by omega) uA uB, uoverlap_eq (by omega) uA u, uoverlap_eq (by omega) u uB, s0, s1, s2, mx, mn]
  rw [gd_t (fun _ => Option.isSome_some), gd_t (fun _ => Option.isSome_some), gd_t (fun _ => by rw [Option.getD_some, Option.getD_some]; unfold I64; omega), gd_t (fun _ => Option.isSome_some), gd_t (fun _ => Option.isSome_some), gd_t (fun _ => Option.isSome_some), gd_t (fun _ => by rw [Option.getD_some, Option.getD_some]; unfold I64; omega), gd_t (fun _ => Option.isSome_some), bS, gd_t (fun _ => Option.isSome_some), gd_t (fun _ => Option.isSome_some), gd_t (fun _ => Option.isSome_some), gd_t (fun _ => Option.isSome_some)]
  simp only [Option.getD_some, y1, y2, y3, decide_true, decide_eq_true w1.2.1, Bool.and_true, Bool.true_and, Bool.not_true, Bool.not_false, Bool.and_false]
end Go.Proofs.YtdabfcbelkjmgaaDoor.Am
