import Derived.Test.YtojciffnkbfbhaaMB
import Derived.Test.YtojciffnkbfbhaaM1
import Derived.Test.YtojciffnkbfbhaaL3
/-
  Plain laws: PlaneMoves.
-/
namespace Go.Proofs.Ytojciffnkbfbhaa.Am
set_option linter.unusedSimpArgs false
set_option linter.unusedVariables false
theorem lpick_eq {N : Nat} {c n : Int} (hc : I64 c) (hn : 0 < n) : D_putloglaw07_pick N c n = some (pk c n) := by
  unfold D_putloglaw07_pick pk
  unfold I64 at hc
  by_cases h : c < 0
  · rw [decide_eq_true h, cT, if_pos h, gd_of (by unfold I64; omega), gd_of (by unfold I64; omega), gd_of (by omega)]
  · rw [decide_eq_false h, cF, if_neg h, gd_of (by omega)]
open Classical in
theorem off_loop (N : Nat) {l : List Pt} (hl : l.length ≤ 1000) (hs : ∀ p ∈ l, Sml p) {u v : Int} (hu : 0 ≤ u ∧ u < 81) (hv : 0 ≤ v ∧ v < 81) : ∀ (n i : Nat) (b : Bool), i ≤ l.length → l.length < n + i → D_putloglaw07_PlaneMoves_L1 N l u v n b i = some (b || decide (∃ j, i ≤ j ∧ j < l.length ∧ ¬ On (mv (u - 40, v - 40) (pa l j))))
  | 0, i, b, h1, h2 => by omega
  | n + 1, i, b, h1, h2 => by
    rw [D_putloglaw07_PlaneMoves_L1]
    by_cases he : i = l.length
    · subst he
      rw [dge, cF]
      congr 1
      rw [decide_eq_false (by rintro ⟨j, a, b, _⟩; omega), Bool.or_false]
    have hi' : i < l.length := by omega
    have hp := hs _ (pa_mem hi')
    unfold Sml at hp
    have g1 : l.getD (i : Int).toNat (0, 0) = pa l i := by rw [Int.toNat_natCast]; rfl
    have on : D_putlogref07_OnMap N ((pa l i).1 + (u - 40)) ((pa l i).2 + (v - 40)) = some (decide (On (mv (u - 40, v - 40) (pa l i)))) := by
      unfold D_putlogref07_OnMap
      congr 1
      by_cases h : On (mv (u - 40, v - 40) (pa l i))
      · rw [decide_eq_true h]
        unfold On mv at h
        simp only at h
        simp only [Bool.and_eq_true, decide_eq_true_eq]
        omega
      · rw [decide_eq_false h]
        unfold On mv at h
        simp only at h
        rw [Bool.eq_false_iff]
        simp only [ne_eq, Bool.and_eq_true, decide_eq_true_eq]
        omega
    rw [dlt hi', cT, g1, on, gd_of (fun _ => ⟨by omega, by omega⟩), gd_of (fun _ => by unfold I64; omega), gd_of (fun _ => ⟨by omega, by omega⟩), gd_of (fun _ => by unfold I64; omega), gd_of (fun _ => Option.isSome_some), gd_of (by unfold I64; omega), ← ns, off_loop N hl hs hu hv n (i + 1) _ (by omega) (by omega), Option.getD_some]
    congr 1
    rw [Bool.or_assoc]
    congr 1
    rw [Bool.eq_iff_iff]
    simp only [Bool.or_eq_true, Bool.not_eq_true', decide_eq_true_eq, decide_eq_false_iff_not]
    constructor
    · rintro (h | ⟨j, a, b, c⟩)
      · exact ⟨i, Nat.le_refl _, hi', h⟩
      · exact ⟨j, by omega, b, c⟩
    · rintro ⟨j, a, b, c⟩
      by_cases e : j = i
      · subst e; exact .inl c
      · exact .inr ⟨j, by omega, b, c⟩
theorem mulM {x y : Int} (hx : -130 ≤ x ∧ x ≤ 130) (hy : -16000000 ≤ y ∧ y ≤ 16000000) : -2080000000 ≤ x * y ∧ x * y ≤ 2080000000 := by
  have h1 : 0 ≤ (130 - x) * (16000000 + y) := Int.mul_nonneg (by omega) (by omega)
  have h2 : 0 ≤ (130 + x) * (16000000 - y) := Int.mul_nonneg (by omega) (by omega)
  have h3 : 0 ≤ (130 + x) * (16000000 + y) := Int.mul_nonneg (by omega) (by omega)
  have h4 : 0 ≤ (130 - x) * (16000000 - y) := Int.mul_nonneg (by omega) (by omega)
  constructor <;> grind
open Classical in
theorem pureMoves (x y : List Pt) (how dx dy : Int) (hx : In2 x) (hy : In2 y) (h0 : I64 how) (h1 : I64 dx) (h2 : I64 dy) : D_putloglaw07_PlaneMoves 2000 x y how dx dy = some true := by
  unfold D_putloglaw07_PlaneMoves
  obtain ⟨a, b, eP, ha, hb⟩ := pair_ok (N := 2000) (by omega) (by omega) hx hy h0
  have a3 := ha.l3
  have b3 := hb.l3
  have a8 := ha.l8
  have b8 := hb.l8
  have hsane : D_putloglaw07_sane 2000 = some true := by decide +kernel
  have p1 := @pk_bd dx 81 (by omega)
  have p2 := @pk_bd dy 81 (by omega)
  rw [hsane, bS, cF' _ (by rfl), eP, bS]
  simp only
  rw [lpick_eq h1 (by omega), bS, lpick_eq h2 (by omega)]
  generalize pk dx 81 = u at *
  generalize pk dy 81 = v at *
  have hd : mvOK (u - 40, v - 40) := by unfold mvOK; simp only; omega
  have mA := move_eq (N := 2000) (by omega) ha hd
  have mB := move_eq (N := 2000) (by omega) hb hd
  simp only at mA mB
  have hoff := off_loop 2000 (l := a) (by omega) ha.sml p1 p2 2000 0 false (by omega) (by omega)
  rw [Int.natCast_zero, Bool.false_or] at hoff
  rw [gd_of (by unfold I64; omega), bS, gd_of (by unfold I64; omega), mA, mB, hoff]
  rcases Classical.em (¬ ∀ p ∈ a, On (mv (u - 40, v - 40) p)) with oA | oA
  · have e1 : ∃ j, 0 ≤ j ∧ j < a.length ∧ ¬ On (mv (u - 40, v - 40) (pa a j)) := by
      by_cases h : ∃ j, 0 ≤ j ∧ j < a.length ∧ ¬ On (mv (u - 40, v - 40) (pa a j))
      · exact h
      · refine absurd (fun p hp => ?_) oA
        obtain ⟨j, hj, rfl⟩ := pa_of hp
        by_cases q : On (mv (u - 40, v - 40) (pa a j))
        · exact q
        · exact absurd ⟨j, by omega, hj, q⟩ h
    rw [if_neg oA, bS]
    simp only
    rw [bS, bS, decide_eq_true e1, cF' _ (by rfl), cT' _ (by rfl)]
  have oA := Classical.not_not.1 oA
  have e1 : ¬ ∃ j, 0 ≤ j ∧ j < a.length ∧ ¬ On (mv (u - 40, v - 40) (pa a j)) := by
    rintro ⟨j, _, hj, hn⟩
    exact hn (oA _ (pa_mem hj))
  rw [if_pos oA, bS, decide_eq_false e1]
  simp only
  rcases Classical.em (¬ ∀ p ∈ b, On (mv (u - 40, v - 40) p)) with oB | oB
  · rw [if_neg oB, bS]
    simp only
    rw [bS, cF' _ (by rfl), cT' _ (by rfl)]
  have oB := Classical.not_not.1 oB
  rw [if_pos oB, bS]
  simp only
  rw [bS, cF' _ (by rfl), cF' _ (by rfl)]
  have hA := mv_vp (u - 40, v - 40) ha oA
  have hB := mv_vp (u - 40, v - 40) hb oB
  have bk := move_eq (N := 2000) (by omega) hA (d := (-(u - 40), -(v - 40))) (by unfold mvOK; simp only; omega)
  have bb := mv_back (u - 40, v - 40) a
  simp only at bk bb
  rw [if_pos (fun p hp => by
    obtain ⟨q, hq, rfl⟩ := List.mem_map.1 hp
    have := ha.on q hq
    unfold On at this
    unfold On mv
    simp only
    omega), bb] at bk
  have ar := area_b ha
  have mo := mom_b ha
  have k1 := mulM (x := 3 * (u - 40)) (y := areaS a) (by omega) ar
  have k2 := mulM (x := 3 * (v - 40)) (y := areaS a) (by omega) ar
  have lA := lat_eq (N := 2000) (by omega) ha
  have lB := lat_eq (N := 2000) (by omega) hA
  have nA := mom_eq (N := 2000) (by omega) ha
  have nB := mom_eq (N := 2000) (by omega) hA
  rw [mv_area _ (by omega), mv_bd] at lB
  rw [mv_momX _ (by omega), mv_momY _ (by omega)] at nB
  have cB := area_eq (N := 2000) (by omega) hA
  rw [mv_area _ (by omega)] at cB
  rw [gd_of (by unfold I64; omega), gd_of (by unfold I64; omega), bk, bS]
  simp only
  rw [nA, bS]
  simp only
  rw [nB, bS]
  simp only
  rw [lA, bS]
  simp only
  rw [lB, bS]
  simp only
  rw [area_eq (by omega) ha, bS, same_refl (by omega) (by omega), cB, gd_of (fun _ => Option.isSome_some), gd_of (fun _ => Option.isSome_some)]
  simp only [Option.getD_some]
  rw [gd_of (fun _ => by unfold I64; omega), gd_of (fun _ => by unfold I64; omega), gd_of (fun _ => by unfold I64; omega), gd_of (fun _ => by unfold I64; omega), gd_of (fun _ => by unfold I64; omega), gd_of (fun _ => by unfold I64; omega),
    cF' _ (by simp)]
  have sA := seam_eq (N := 2000) (by omega) ha hb
  have sB := seam_eq (N := 2000) (by omega) hA hB
  have dA := sideE (N := 2000) (by omega) ha hb
  have dB := sideE (N := 2000) (by omega) hA hB
  have vA := overlap_eq (N := 2000) (by omega) ha hb
  have vB := overlap_eq (N := 2000) (by omega) hA hB
  rw [mv_side] at dB vB
  have es : seamS (a.map (mv (u - 40, v - 40))) (b.map (mv (u - 40, v - 40))) = (if (seamS a b).2 = true then mv2 (u - 40, v - 40) (seamS a b).1 else ((0, 0), (0, 0)), (seamS a b).2) := by
    unfold seamS
    by_cases h : apart a b
    · rw [if_pos h, if_pos ((mv_apart _ a b).2 h), mv_seam1]
      cases seam1 a b <;> rfl
    · rw [if_neg h, if_neg (fun q => h ((mv_apart _ a b).1 q))]
      rfl
  rw [es] at sB
  have sm : ∀ s, seamS a b = (s, true) → (Sml s.1 ∧ Sml s.2) := fun s hs => by
    have h1 : ∀ u v : Pt, Sml u → Sml v → Sml (lo u v) ∧ Sml (hi u v) ∧ Sml (maxO u v) ∧ Sml (minO u v) := fun u v a b => by
      unfold lo hi maxO minO
      refine ⟨?_, ?_, ?_, ?_⟩ <;> split <;> assumption
    unfold seamS at hs
    by_cases hap : apart a b
    · rw [if_pos hap] at hs
      cases h : seam1 a b with
      | none => rw [h] at hs; cases hs
      | some w =>
        rw [h] at hs
        cases hs
        unfold seam1 at h
        obtain ⟨e, he, h⟩ := List.exists_of_findSome?_eq_some h
        obtain ⟨f, hf, h⟩ := List.exists_of_findSome?_eq_some h
        obtain ⟨a1, a2⟩ := edges_sml ha.sml e he
        obtain ⟨b1, b2⟩ := edges_sml hb.sml f hf
        have q1 := (h1 _ _ (h1 _ _ a1 a2).1 (h1 _ _ b1 b2).1).2.2.1
        have q2 := (h1 _ _ (h1 _ _ a1 a2).2.1 (h1 _ _ b1 b2).2.1).2.2.2
        unfold cand at h
        split at h
        · cases h
        · split at h
          · cases h
          · split at h <;> cases h
            · exact ⟨q2, q1⟩
            · exact ⟨q1, q2⟩
    · rw [if_neg hap] at hs; cases hs
  obtain ⟨⟨⟨⟨s1, s2⟩, ⟨s3, s4⟩⟩, is⟩, hS⟩ : ∃ s, seamS a b = s := ⟨_, rfl⟩
  rw [hS] at sA sB
  rw [sA, bS]
  simp only
  obtain ⟨⟨i, k, f⟩, hD⟩ : ∃ s, sideS a b = s := ⟨_, rfl⟩
  rw [hD] at dA dB vA vB
  cases is with
  | false =>
    simp only [Bool.false_eq_true, if_false] at sB
    rw [sB, bS]
    simp only
    rw [dA, bS]
    simp only
    rw [dB, bS]
    simp only
    rw [vA, bS, vB, bS, cF' _ (by simp), gd_of (fun h => by simp at h), gd_of (fun h => by simp at h), gd_of (fun h => by simp at h), gd_of (fun h => by simp at h)]
    rfl
  | true =>
    simp only [if_true] at sB
    have := sm _ hS
    unfold Sml at this
    simp only at this
    rw [sB, bS]
    simp only [mv2, mv]
    rw [dA, bS]
    simp only
    rw [dB, bS]
    simp only
    rw [vA, bS, vB, bS, cF' _ (by simp), gd_of (fun _ => by unfold I64; omega), gd_of (fun _ => by unfold I64; omega), gd_of (fun _ => by unfold I64; omega), gd_of (fun _ => by unfold I64; omega)]
    simp
end Go.Proofs.Ytojciffnkbfbhaa.Am
