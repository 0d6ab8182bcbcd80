/-
  Plain laws: MonitorReasons.
-/
import Derived.Test.YtmmfbjmjhjmccaaD1
namespace Go.Proofs.Ytmmfbjmjhjmccaa.Am
open Go
attribute [local irreducible] awp seqK blkK backK endK inlK restK rngK asgK itK
set_option maxRecDepth 100000
set_option maxHeartbeats 8000000
set_option linter.unusedSimpArgs false
set_option linter.unusedVariables false
attribute [local irreducible] made24 boundsS reasonS
theorem reasons_L2 (N : Nat) (g : Ga) (a b : Int) (hl : g.S.length ≤ 1000) : ∀ (n k : Nat), k ≤ g.S.length → g.S.length < n + k →
    D_putloglaw24_MonitorReasons_L2 N g a b n k (fewS a b g.S k) = some (fewS a b g.S g.S.length)
  | 0, k, hk, hn => by omega
  | n + 1, k, hk, hn => by
    rw [D_putloglaw24_MonitorReasons_L2]
    have hfl : (fewS a b g.S k).length ≤ k := by
      have := (few_sub a b g.S k hk).length_le
      simp at this; omega
    by_cases h : k < g.S.length
    · have e1 : decide ((k : Int) < (g.S.length : Int)) = true := by simp; omega
      have ih := reasons_L2 N g a b hl n (k + 1) (by omega) (by omega)
      have gI : I64 ((k : Int) + 1) := by unfold I64; omega
      simp only [e1, cond_true, gd_of gI]
      simp only [Int.natCast_add, Int.cast_ofNat_Int] at ih
      rw [nth_of (0, 0) (by omega) (by omega)]
      simp only [Option.bind_some, fewS] at ih ⊢
      by_cases hab : (k : Int) = a ∨ (k : Int) = b
      · rw [if_pos hab] at ih
        have e2 : (decide ((k : Int) = a) || decide ((k : Int) = b)) = true := by simpa using hab
        rw [e2, cond_true, gd_of (by omega)]
        exact ih
      · rw [if_neg hab] at ih
        have e2 : (decide ((k : Int) = a) || decide ((k : Int) = b)) = false := by simpa using hab
        rw [e2, cond_false]
        exact ih
    · have e1 : decide ((k : Int) < (g.S.length : Int)) = false := by simp; omega
      rw [e1, cond_false, show k = g.S.length by omega]

theorem pureReasons (x : Sty) (hx : x.In) (t : Int) (ht : inI t) : D_putloglaw24_MonitorReasons 2000 x.drift x.start x.rates x.rd x.tol x.rate x.first x.steps x.sm t = some true := by
  unfold D_putloglaw24_MonitorReasons
  have hpt := @pick_bd t 400 (by omega)
  obtain ⟨s, hs⟩ : ∃ s, pickS t 400 = s := ⟨_, rfl⟩
  obtain ⟨l, h, a, b, a1, a2, a3, a4, a5, a6, a7⟩ := reasons_sound x (t := s) (by omega)
  have hlA := (made24_S x).1
  obtain ⟨A, hA⟩ : ∃ A, made24 ⟨x.drift, x.start, x.rates, x.rd, x.tol, x.rate, x.first, x.steps, x.sm⟩ = A := ⟨_, rfl⟩
  have hA' : made24 x = A := hA
  rw [hA'] at hlA a1 a2 a4 a6 a7
  have hL := reasons_L2 2000 A a b (by omega) 2000 0 (by omega) (by omega)
  have hf := (few_sub a b A.S A.S.length (Nat.le_refl _)).length_le
  simp only [List.take_length] at hf
  have hL' : D_putloglaw24_MonitorReasons_L2 2000 A a b 2000 0 [] = some (fewS a b A.S A.S.length) := hL
  have e1 : ((((((decide ((0 : Int) ≠ 0)) || (decide ((0 : Int) ≠ 0))) || (decide (a < (-1)))) || (decide ((A.S.length : Int) ≤ a))) || (decide (b < (-1)))) || (decide ((A.S.length : Int) ≤ b))) = false := by
    simp; omega
  have g1 : A.S.length ≤ 1000 := by omega
  have g2 : (fewS a b A.S A.S.length).length ≤ 1000 := by omega
  simp only [gd_of hx.drift, gd_of hx.start, gd_of hx.rates, gd_of hx.rd, gd_of hx.tol, gd_of hx.rate, gd_of hx.first, gd_of hx.steps, gd_of hx.sm, hA, Option.bind_some, gd_of ht, hs, gd_of g1, a1, a2, e1, cond_false, hL', gd_of g2, a7]
  simp
end Go.Proofs.Ytmmfbjmjhjmccaa.Am
