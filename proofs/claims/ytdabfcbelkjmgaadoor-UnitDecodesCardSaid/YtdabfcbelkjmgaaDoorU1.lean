import Derived.Test.YtdabfcbelkjmgaaDoorM9
import Derived.Test.YtdabfcbelkjmgaaDoorM7
import Derived.Test.YtdabfcbelkjmgaaDoorE1
import Derived.Test.YtdabfcbelkjmgaaDoorE2
/-
  Plain laws of units: validity, depth, density, volume, weight, moment; the units that integers determine.
-/
namespace Go.Proofs.YtdabfcbelkjmgaaDoor.Am
set_option linter.unusedSimpArgs false
set_option linter.unusedVariables false
structure UP (a b c : Int) (l : List Pt) (p q : Int) : Prop where
  a : 0 ≤ a ∧ a ≤ 99
  b : 1 ≤ b ∧ b ≤ 8
  c : 0 ≤ c ∧ c ≤ 7
  d : 0 ≤ p ∧ p < q ∧ q ≤ 8
  l : VP l
theorem uisIn_eq (N : Nat) (n lo hi : Int) : D_unit_isIn N n lo hi = some (decide (lo ≤ n) && decide (n ≤ hi)) := rfl
/-- What is asked beside the shape. -/
def headB (a b c p q : Int) : Bool := (((((decide (0 ≤ a) && decide (a ≤ 99)) && (decide (1 ≤ b) && decide (b ≤ 8))) && (decide (0 ≤ c) && decide (c ≤ 7))) && decide (0 ≤ p)) && decide (p < q)) && decide (q ≤ 8)
theorem uvalid_eq {N : Nat} (hN : 100 ≤ N) (a b c : Int) (l : List Pt) (p q : Int) : D_unit_Valid N a b c l p q = some (headB a b c p q && vB l) := by
  unfold D_unit_Valid headB
  rw [uisIn_eq, uisIn_eq, uisIn_eq, valid_eq hN, bS, gd_t (fun _ => Option.isSome_some), gd_t (fun _ => Option.isSome_some), gd_t (fun _ => Option.isSome_some)]
  rfl
theorem up_iff {a b c : Int} {l : List Pt} {p q : Int} : (headB a b c p q && vB l) = true ↔ UP a b c l p q := by
  unfold headB
  simp only [Bool.and_eq_true, decide_eq_true_eq, vB_t]
  constructor
  · rintro ⟨⟨⟨⟨⟨⟨h1, h2⟩, h3⟩, h4⟩, h5⟩, h6⟩, h7⟩
    exact ⟨h1, h2, h3, ⟨h4, h5, h6⟩, h7⟩
  · rintro ⟨h1, h2, h3, ⟨h4, h5, h6⟩, h7⟩
    exact ⟨⟨⟨⟨⟨⟨h1, h2⟩, h3⟩, h4⟩, h5⟩, h6⟩, h7⟩
theorem uvalid_t {N : Nat} (hN : 100 ≤ N) {a b c : Int} {l : List Pt} {p q : Int} (h : UP a b c l p q) : D_unit_Valid N a b c l p q = some true := by
  rw [uvalid_eq hN, up_iff.2 h]
theorem depth_eq {N : Nat} (hN : 100 ≤ N) {a b c : Int} {l : List Pt} {p q : Int} (h : UP a b c l p q) : D_unit_depth N a b c l p q = some (q - p) := by
  have := h.d
  unfold D_unit_depth
  rw [uvalid_t hN h, bS, cF' _ (by rfl), gd_of (by unfold I64; omega)]
def den (c : Int) : Int := (GT 0).getD (c.toNat * 5) 0
theorem den_bd {c : Int} (h : 0 ≤ c ∧ c ≤ 7) : 1 ≤ den c ∧ den c ≤ 10 := by
  unfold den
  have : ∀ n, n < 8 → 1 ≤ (GT 0).getD (n * 5) 0 ∧ (GT 0).getD (n * 5) 0 ≤ 10 := by decide
  exact this c.toNat (by omega)
theorem density_eq (N : Nat) {a b c : Int} {l : List Pt} {p q : Int} (h : 0 ≤ c ∧ c ≤ 7) : D_unit_density N a b c l p q = some (den c) := by
  unfold D_unit_density D_unit_Stuff
  rw [uisIn_eq, bS, cF' _ (by simp; omega), gd_of (by omega), bS]
  rfl
theorem mul_bd {x y A B : Int} (hx : -A ≤ x ∧ x ≤ A) (hy : 0 ≤ y ∧ y ≤ B) (hA : 0 ≤ A) : -(A * B) ≤ x * y ∧ x * y ≤ A * B := by
  have h1 : 0 ≤ (A - x) * y := Int.mul_nonneg (by omega) hy.1
  have h2 : 0 ≤ (A + x) * y := Int.mul_nonneg (by omega) hy.1
  have h3 : 0 ≤ A * (B - y) := Int.mul_nonneg hA (by omega)
  rw [Int.sub_mul] at h1
  rw [Int.add_mul] at h2
  rw [Int.mul_sub] at h3
  omega
theorem vol_eq {N : Nat} (hN : 100 ≤ N) {a b c : Int} {l : List Pt} {p q : Int} (h : UP a b c l p q) : D_unit_Volume2 N a b c l p q = some (areaS l * (q - p)) := by
  have hd := h.d
  have h1 := mul_bd (area_b h.l) (y := q - p) (B := 8) (by omega) (by omega)
  unfold D_unit_Volume2
  rw [area_eq hN h.l, bS, depth_eq hN h, bS, gd_of (by unfold I64; omega)]
theorem weight_eq {N : Nat} (hN : 100 ≤ N) {a b c : Int} {l : List Pt} {p q : Int} (h : UP a b c l p q) : D_unit_Weight6 N a b c l p q = some ((3 * (areaS l * (q - p))) * den c) := by
  have hd := h.d
  have h1 := mul_bd (area_b h.l) (y := q - p) (B := 8) (by omega) (by omega)
  have h3 := den_bd h.c
  have h2 := mul_bd (x := 3 * (areaS l * (q - p))) (A := 400000000) (y := den c) (B := 10) (by omega) (by omega) (by omega)
  unfold D_unit_Weight6
  rw [vol_eq hN h, bS, gd_of (by unfold I64; omega), density_eq N h.c, bS, gd_of (by unfold I64; omega)]
theorem moment_eq {N : Nat} (hN : 100 ≤ N) {a b c : Int} {l : List Pt} {p q : Int} (h : UP a b c l p q) : D_unit_Moment6 N a b c l p q = some ((momX l * (q - p)) * den c) := by
  have hd := h.d
  have h1 := mul_bd (mom_b h.l).1 (y := q - p) (B := 8) (by omega) (by omega)
  have h3 := den_bd h.c
  have h2 := mul_bd (x := momX l * (q - p)) (A := 170000000000) (y := den c) (B := 10) (by omega) (by omega) (by omega)
  unfold D_unit_Moment6
  rw [mom_eq hN h.l, bS]
  simp only
  rw [depth_eq hN h, bS, gd_of (by unfold I64; omega), density_eq N h.c, bS, gd_of (by unfold I64; omega)]

/-! ### The units that integers determine -/
theorem pick8_eq {N : Nat} {c n : Int} (hc : I64 c) (hn : 0 < n) : D_putlogref08_pick N c n = some (pk c n) := by
  unfold D_putlogref08_pick pk
  unfold I64 at hc
  by_cases h : c < 0
  · rw [decide_eq_true h, cT, if_pos h, gd_of (by unfold I64; omega), gd_of (by unfold I64; omega), gd_of (by omega)]
  · rw [decide_eq_false h, cF, if_neg h, gd_of (by omega)]
theorem lpick_eq {N : Nat} {c n : Int} (hc : I64 c) (hn : 0 < n) : D_putloglaw08_pick N c n = some (pk c n) := by
  unfold D_putloglaw08_pick pk
  unfold I64 at hc
  by_cases h : c < 0
  · rw [decide_eq_true h, cT, if_pos h, gd_of (by unfold I64; omega), gd_of (by unfold I64; omega), gd_of (by omega)]
  · rw [decide_eq_false h, cF, if_neg h, gd_of (by omega)]
theorem of_ok {N : Nat} {id : Int} {l : List Pt} {x0 x1 x2 x3 : Int} (hl : VP l) (hi : I64 id) (h0 : I64 x0) (h1 : I64 x1) (h2 : I64 x2) (h3 : I64 x3) : ∃ a b c p q, D_putlogref08_Of N id l x0 x1 x2 x3 = some (a, b, c, l, p, q) ∧ UP a b c l p q := by
  have k0 := @pk_bd id 100 (by omega)
  have k1 := @pk_bd x0 8 (by omega)
  have k2 := @pk_bd x1 8 (by omega)
  have k3 := @pk_bd x2 8 (by omega)
  have k4 := @pk_bd x3 (8 - pk x2 8) (by omega)
  have l8 := hl.l8
  refine ⟨pk id 100, 1 + pk x0 8, pk x1 8, pk x2 8, (pk x2 8 + 1) + pk x3 (8 - pk x2 8), ?_, ⟨by omega, by omega, by omega, by omega, hl⟩⟩
  unfold D_putlogref08_Of
  rw [pick8_eq hi (by omega), bS, pick8_eq h0 (by omega), bS, gd_of (by unfold I64; omega), pick8_eq h1 (by omega), bS, gd_of (by omega), pick8_eq h2 (by omega), bS, gd_of (by unfold I64; omega), gd_of (by unfold I64; omega), pick8_eq h3 (by omega), bS, gd_of (by unfold I64; omega)]
theorem tdiv8 {n : Int} (h : I64 n) : I64 (n.tdiv 8) := tdiv_I64 (d := 8) h (by omega) (by omega)
theorem pair8_ok {N : Nat} (hN : 1000 ≤ N) (hNb : N ≤ 4000) {x y : List Pt} {how a0 a1 a2 a3 b0 b1 b2 b3 : Int} (hx : In2 x) (hy : In2 y) (hh : I64 how) (h0 : I64 a0) (h1 : I64 a1) (h2 : I64 a2) (h3 : I64 a3) (g0 : I64 b0) (g1 : I64 b1) (g2 : I64 b2) (g3 : I64 b3) :
    ∃ a b c l p q a' b' c' l' p' q', D_putlogref08_Pair N x y how a0 a1 a2 a3 b0 b1 b2 b3 = some ((a, b, c, l, p, q), (a', b', c', l', p', q')) ∧ UP a b c l p q ∧ UP a' b' c' l' p' q' := by
  obtain ⟨l, l', e, hl, hl'⟩ := pair_ok hN hNb hx hy hh
  obtain ⟨a, b, c, p, q, e1, u1⟩ := of_ok (N := N) hl (tdiv8 h0) h0 h1 h2 h3
  obtain ⟨a', b', c', p', q', e2, u2⟩ := of_ok (N := N) hl' (tdiv8 g0) g0 g1 g2 g3
  refine ⟨a, b, c, l, p, q, a', b', c', l', p', q', ?_, u1, u2⟩
  unfold D_putlogref08_Pair
  rw [e, bS]
  simp only
  rw [gd_of (tdiv8 h0), e1, bS]
  simp only
  rw [gd_of (tdiv8 g0), e2, bS]
end Go.Proofs.YtdabfcbelkjmgaaDoor.Am
