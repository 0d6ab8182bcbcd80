/-
  Plain law: a bent gauge is a gauge.
-/
import Derived.Test.YtmmfbjmjhjmccaaM5
import Derived.Test.YtmmfbjmjhjmccaaD8
namespace Go.Proofs.Ytmmfbjmjhjmccaa.Am
set_option linter.unusedSimpArgs false
set_option linter.unusedVariables false
open Go
attribute [local irreducible] made05 made24
theorem wrap_id {n : Int} (h : -9223372036854775808 ≤ n ∧ n ≤ 9223372036854775807) : IntKind.wrap .i64 n = n := inR_wrap (k := .i64) h
/-- A bent gauge is a gauge. -/
theorem bent_total (N : Nat) (d : Int) (R : List Rd3) (tol rate : Int) (S : List Sm) (how n at_ : Int) (hS : S.length ≤ 12) (h1 : inI how) (h2 : inI at_) :
    ∃ d' R' tol' rate' S', D_putlogref24_Bent N d R tol rate S how n at_ = some ((d', R'), tol', rate', S') ∧ S'.length ≤ 13 := by
  unfold D_putlogref24_Bent
  rw [gd_of (by omega)]
  simp only [Bool.cond_eq_ite, decide_eq_true_eq]
  split
  · have hp := @pick_bd at_ 1 (by omega)
    have e : pickS at_ 1 = 0 := by omega
    have n0 : nth [(n, at_)] 0 = some (n, at_) := rfl
    have w0 : nth [(n, at_)] (IntKind.wrap .i64 0) = some (n, at_) := by rw [wrap_id (by omega)]; rfl
    simp only [gd_of h2, gd_of h1, Option.bind_some, e, n0, w0]
    repeat' split
    all_goals exact ⟨_, _, _, _, _, rfl, by simp⟩
  · rename_i h0
    have hpos : (0 : Int) < (S.length : Int) := by omega
    have hp := @pick_bd at_ S.length hpos
    obtain ⟨⟨a, b⟩, hab⟩ : ∃ z, S.getD (pickS at_ S.length).toNat (0, 0) = z := ⟨_, rfl⟩
    obtain ⟨⟨a', b'⟩, hab'⟩ : ∃ z, S.getD ((S.length : Int) - 1).toNat (0, 0) = z := ⟨_, rfl⟩
    have n1 := nth_of (l := S) (0, 0) hp.1 hp.2
    have n2 := nth_of (l := S) (i := (S.length : Int) - 1) (0, 0) (by omega) (by omega)
    rw [hab] at n1
    rw [hab'] at n2
    have g1 : (S.length + 1) * 16 ≤ 140737488355328 := by omega
    simp only [gd_of h2, gd_of hpos, gd_of h1, Option.bind_some, n1, wrap_id (show -9223372036854775808 ≤ (S.length : Int) - 1 ∧ (S.length : Int) - 1 ≤ 9223372036854775807 by omega), n2, gd_of g1]
    repeat' split
    all_goals exact ⟨_, _, _, _, _, rfl, by first | omega | (simp; omega)⟩

end Go.Proofs.Ytmmfbjmjhjmccaa.Am
