import Derived.Test.YtojciffnkbfbhaaM7
import Derived.Test.YtojciffnkbfbhaaM1
import Derived.Test.YtojciffnkbfbhaaL2
/-
  Plain laws: PlaneSeparates.
-/
namespace Go.Proofs.Ytojciffnkbfbhaa.Am
set_option linter.unusedSimpArgs false
set_option linter.unusedVariables false
theorem lpick_eq {N : Nat} {c n : Int} (hc : I64 c) (hn : 0 < n) : D_putloglaw07_pick N c n = some (pk c n) := by
  unfold D_putloglaw07_pick pk
  unfold I64 at hc
  by_cases h : c < 0
  · rw [decide_eq_true h, cT, if_pos h, gd_of (by unfold I64; omega), gd_of (by unfold I64; omega), gd_of (by omega)]
  · rw [decide_eq_false h, cF, if_neg h, gd_of (by omega)]
noncomputable def ins (l : List Pt) (p : Pt) : Int := if On p then sd l p else -1
theorem ins_eq {N : Nat} (hN : 100 ≤ N) {l : List Pt} (h : VP l) (x y : Int) : D_plane_Inside N l x y = some (ins l (x, y)) := inside_eq hN h (x, y)
theorem ins_1 {l : List Pt} {p : Pt} (ho : On p) : ins l p = 1 ↔ inn l p := by unfold ins; rw [if_pos ho, sd_1]
theorem sep_loop {N : Nat} {own other : List Pt} (h1 : own.length ≤ 1000) (h2 : other.length ≤ 1000) (ho : ∀ p ∈ own, Sml p) (ht : ∀ p ∈ other, Sml p) {i : Nat} (hi : i < own.length) (hs : sep own i other) : ∀ n k : Nat, k ≤ other.length → other.length < n + k → D_putloglaw07_PlaneSeparates_L2 N other own i n k = some (.inl ())
  | 0, k, a, b => by omega
  | n + 1, k, a, b => by
    rw [D_putloglaw07_PlaneSeparates_L2]
    by_cases he : k = other.length
    · subst he
      rw [dge, cF]
    have hk : k < other.length := by omega
    have hm : (i + 1) % own.length < own.length := Nat.mod_lt _ (by omega)
    have q := hs _ (pa_mem hk)
    unfold E at q
    rw [dlt hk, cT, nth_pa hi, bS, tmod_nat, nth_pa hm, nth_pa hk]
    simp only
    rw [gd_of (by unfold I64; omega), gd_of (by omega), bS]
    simp only
    rw [bS]
    simp only
    rw [rturn_eq (ho _ (pa_mem hi)) (ho _ (pa_mem hm)) (ht _ (pa_mem hk)), bS, cF' _ (decide_eq_false (by omega)), gd_of (by unfold I64; omega), ← ns]
    exact sep_loop h1 h2 ho ht hi hs n (k + 1) (by omega) (by omega)
theorem pureSeparates (x y : List Pt) (how px py : Int) (hx : In2 x) (hy : In2 y) (h0 : I64 how) (h1 : I64 px) (h2 : I64 py) : D_putloglaw07_PlaneSeparates 2000 x y how px py = some true := by
  unfold D_putloglaw07_PlaneSeparates
  obtain ⟨a, b, eP, ha, hb⟩ := pair_ok (N := 2000) (by omega) (by omega) hx hy h0
  have a3 := ha.l3
  have b3 := hb.l3
  have a8 := ha.l8
  have b8 := hb.l8
  have hsym : (sideS b a).2.2 = (sideS a b).2.2 := by
    rw [Bool.eq_iff_iff, sideS_t, sideS_t]
    exact ⟨apart.symm, apart.symm⟩
  have hself : (sideS a a).2.2 = false := by
    rw [Bool.eq_false_iff]
    intro h
    exact apart_self ha (sideS_t.1 h)
  have hin : ∀ p, On p → ins a p = 1 → ins b p = 1 → (sideS a b).2.2 = false := fun p ho q1 q2 => by
    rw [Bool.eq_false_iff]
    intro h
    exact apart_inn (by omega) (by omega) (sideS_t.1 h) ((ins_1 ho).1 q1) ((ins_1 ho).1 q2)
  have hcell : ∀ p : Pt, (if (0 ≤ p.1 ∧ p.1 < 40) ∧ 0 ≤ p.2 ∧ p.2 < 40 then sd (a.map dbl) (2 * p.1 + 1, 2 * p.2 + 1) else -1) = 1 → (if (0 ≤ p.1 ∧ p.1 < 40) ∧ 0 ≤ p.2 ∧ p.2 < 40 then sd (b.map dbl) (2 * p.1 + 1, 2 * p.2 + 1) else -1) = 1 → (sideS a b).2.2 = false := fun p q1 q2 => by
    rw [Bool.eq_false_iff]
    intro h
    by_cases hc : (0 ≤ p.1 ∧ p.1 < 40) ∧ 0 ≤ p.2 ∧ p.2 < 40
    · rw [if_pos hc] at q1 q2
      exact apart_inn (by simp; omega) (by simp; omega) (dbl_apart (sideS_t.1 h)) (sd_1.1 q1) (sd_1.1 q2)
    · rw [if_neg hc] at q1; omega
  have hB := sane_true
  have hsane : D_putloglaw07_sane 2000 = some true := by decide +kernel
  rw [hsane, bS, cF' _ (by rfl), eP, bS]
  simp only
  rw [sideE (by omega) ha hb, show sideS a b = ((sideS a b).1, (sideS a b).2.1, (sideS a b).2.2) from rfl, bS, overlap_eq (by omega) ha hb, overlap_eq (by omega) hb ha, overlap_eq (by omega) ha ha]
  simp only
  rw [bS, hsym, hself]
  have e1 : ((!(sideS a b).2.2) == (sideS a b).2.2) = false := by cases (sideS a b).2.2 <;> rfl
  rw [e1, gd_of (fun _ => Option.isSome_some), gd_of (fun _ => Option.isSome_some), gd_of (fun _ => Option.isSome_some)]
  simp only [Option.getD_some]
  have e2 : ((false || ((!(sideS a b).2.2) != !(sideS a b).2.2)) || !(!false)) = false := by cases (sideS a b).2.2 <;> rfl
  have p1 := @pk_bd px 41 (by omega)
  have p2 := @pk_bd py 41 (by omega)
  rw [cF' _ e2, lpick_eq h1 (by omega), bS, lpick_eq h2 (by omega), bS]
  generalize pk px 41 = u at *
  generalize pk py 41 = v at *
  have hon : On (u, v) := by unfold On; simp only; omega
  have c1 := cell_eq (N := 2000) (by omega) ha (u, v)
  have c2 := cell_eq (N := 2000) (by omega) hb (u, v)
  have hc := hcell (u, v)
  have hi := hin (u, v) hon
  simp only at c1 c2 hc
  rw [ins_eq (by omega) ha, bS, ins_eq (by omega) hb, c1, c2, gd_of (fun _ => Option.isSome_some), gd_of (fun _ => Option.isSome_some), gd_of (fun _ => Option.isSome_some)]
  simp only [Option.getD_some]
  rw [cF' _ (by
    rw [Bool.eq_false_iff]
    intro h
    simp only [Bool.or_eq_true, Bool.and_eq_true, decide_eq_true_eq] at h
    rcases h with ⟨⟨q1, q2⟩, q3⟩ | ⟨⟨q1, q2⟩, q3⟩
    · rw [hi q1 q2] at q3; cases q3
    · rw [hc q1 q2] at q3; cases q3)]
  rcases sideS_cases a b with ⟨i, k1, k2, k3⟩ | ⟨i, k1, k2, k3⟩ | ⟨k1, k3⟩ <;> rw [k3]
  · rw [cF' _ (by rfl), cF' _ (by rfl), bS]
    simp only
    rw [cF' _ (by simp; omega)]
    have := sep_loop (N := 2000) (by omega) (by omega) ha.sml hb.sml k1 k2 2000 0 (by omega) (by omega)
    rw [Int.natCast_zero] at this
    rw [this, bS]
  · rw [cF' _ (by rfl), cT' _ (by rfl), bS]
    simp only
    rw [cF' _ (by simp; omega)]
    have := sep_loop (N := 2000) (by omega) (by omega) hb.sml ha.sml k1 k2 2000 0 (by omega) (by omega)
    rw [Int.natCast_zero] at this
    rw [this, bS]
  · rw [cT' _ (by rfl)]
    rfl
end Go.Proofs.Ytojciffnkbfbhaa.Am
