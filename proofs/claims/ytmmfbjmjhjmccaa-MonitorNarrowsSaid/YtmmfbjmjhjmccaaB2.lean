/-
  Proves MonitorNarrows: for every input the law returns true, and the arguments read as before. No condition.
-/
import Derived.Test.YtmmfbjmjhjmccaaRows
import Derived.Test.YtmmfbjmjhjmccaaP13
import Derived.ProofKit
namespace Go.Proofs.Ytmmfbjmjhjmccaa
open Go.ChangeShapes Go.WideShapes Go.ChangeAt Go.RowKit
set_option linter.unusedVariables false

theorem lawOwn : ownKnob Try.prog.godebug = none := by kernel_rfl
theorem lawLaid : laidOutB Try.prog = true := by kernel_rfl

theorem monitorNarrows_pc (cs : List Am.AV) (h : Am.ArgsOK [(true, Am.shSt), (false, [.i]), (false, [.i]), (false, [.i]), (false, [.i])] cs) : Am.PCall Try.prog 6 cs (.b true) := by
  simp only [Am.ArgsOK] at h
  obtain ⟨a, _, rfl, ha, b, _, rfl, hb, c, _, rfl, hc, d, _, rfl, hd, e, _, rfl, he, rfl⟩ := h
  obtain ⟨x, hx, rfl⟩ := Am.story_of ha
  obtain ⟨t, ht, rfl⟩ := Am.int_of hb
  obtain ⟨u, hu, rfl⟩ := Am.int_of hc
  obtain ⟨v, hv, rfl⟩ := Am.int_of hd
  obtain ⟨w, hw, rfl⟩ := Am.int_of he
  exact Am.lawNarrows x hx t u v w ht hu hv hw

set_option maxRecDepth 100000 in
theorem monitorNarrows_lifted (os : Os) (started : os.Started) (H : Type) (enc : TypeId × Value → H) :
    ReturnsInHanded {} Try.checked os 6 .any (Rows.monitorNarrowsSpec.pre6 enc Try.prog Try.f6 Rows.monitorNarrowsRow.domain false) (Rows.monitorNarrowsSpec.post enc Try.prog Try.f6 false true false false) := by
  refine returnsInHanded_of_change (C := Try.checked) lawOwn started (by kernel_rfl) Try.func6
    (ChangeSpec.witness6 (enc := enc) (C := Try.checked) false ⟨#[], #[.agg #[.int .i64 0, .int .i64 0, .slice none 0 0, .slice none 0 0, .int .i64 0, .int .i64 0, .int .i64 0, .slice none 0 0, .slice none 0 0], .int .i64 0, .int .i64 0, .int .i64 0, .int .i64 0], []⟩ 8 (by kernel_rfl) (by kernel_rfl) (by kernel_rfl) (by kernel_rfl)) ?_
  intro W base args ds gs before hval hW _ _
  exact Am.law_contract (P := Try.prog) (fn := Try.f6) (s := Rows.monitorNarrowsSpec) (tb := 4) monitorNarrows_pc (by kernel_rfl) rfl
    (fun ds h => match ds, h with
      | [_, _, _, _, _], _ => rfl) (by kernel_rfl) (by kernel_rfl) lawLaid (by kernel_rfl) W base args ds gs before hval hW

theorem monitorNarrows_holds : Rows.MonitorNarrowsSaid :=
  OpenClaim.holds_of_wide 6 Try.f6 rfl rfl rfl rfl rfl rfl rfl ⟨rfl, rfl, rfl, rfl, rfl⟩ rfl rfl rfl rfl rfl (by kernel_rfl) Try.func6 (by kernel_rfl)
    (of_decide_eq_true (by kernel_rfl)) (by unfold Func.isWrapper; first | (rw [if_pos (by decide +kernel)]; kernel_rfl) | (rw [if_neg (by decide +kernel)]; exact ⟨rfl, rfl⟩))
    (fun os started H enc _ => monitorNarrows_lifted os started H enc)
end Go.Proofs.Ytmmfbjmjhjmccaa
