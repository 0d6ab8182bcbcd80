/-
  Proves MonitorBoth: for every input the law returns true, and the arguments read as before. No condition.
-/
import Derived.Test.YtmmfbjmjhjmccaaRows
import Derived.Test.YtmmfbjmjhjmccaaP12
import Derived.ProofKit
namespace Go.Proofs.Ytmmfbjmjhjmccaa
open Go.ChangeShapes Go.WideShapes Go.ChangeAt Go.RowKit
set_option linter.unusedVariables false

theorem lawOwn : ownKnob Try.prog.godebug = none := by kernel_rfl
theorem lawLaid : laidOutB Try.prog = true := by kernel_rfl

theorem monitorBoth_pc (cs : List Am.AV) (h : Am.ArgsOK [(true, Am.shSt), (true, Am.shSt), (false, [.i])] cs) : Am.PCall Try.prog 8 cs (.b true) := by
  simp only [Am.ArgsOK] at h
  obtain ⟨a, _, rfl, ha, b, _, rfl, hb, c, _, rfl, hc, rfl⟩ := h
  obtain ⟨x, hx, rfl⟩ := Am.story_of ha
  obtain ⟨y, hy, rfl⟩ := Am.story_of hb
  obtain ⟨t, ht, rfl⟩ := Am.int_of hc
  exact Am.lawBoth x y hx hy t ht

set_option maxRecDepth 100000 in
theorem monitorBoth_lifted (os : Os) (started : os.Started) (H : Type) (enc : TypeId × Value → H) :
    ReturnsInHanded {} Try.checked os 8 .any (Rows.monitorBothSpec.pre6 enc Try.prog Try.f8 Rows.monitorBothRow.domain false) (Rows.monitorBothSpec.post enc Try.prog Try.f8 false true false false) := by
  refine returnsInHanded_of_change (C := Try.checked) lawOwn started (by kernel_rfl) Try.func8
    (ChangeSpec.witness6 (enc := enc) (C := Try.checked) false ⟨#[], #[.agg #[.int .i64 0, .int .i64 0, .slice none 0 0, .slice none 0 0, .int .i64 0, .int .i64 0, .int .i64 0, .slice none 0 0, .slice none 0 0], .agg #[.int .i64 0, .int .i64 0, .slice none 0 0, .slice none 0 0, .int .i64 0, .int .i64 0, .int .i64 0, .slice none 0 0, .slice none 0 0], .int .i64 0], []⟩ 8 (by kernel_rfl) (by kernel_rfl) (by kernel_rfl) (by kernel_rfl)) ?_
  intro W base args ds gs before hval hW _ _
  exact Am.law_contract (P := Try.prog) (fn := Try.f8) (s := Rows.monitorBothSpec) (tb := 4) monitorBoth_pc (by kernel_rfl) rfl
    (fun ds h => match ds, h with
      | [_, _, _], _ => rfl) (by kernel_rfl) (by kernel_rfl) lawLaid (by kernel_rfl) W base args ds gs before hval hW

theorem monitorBoth_holds : Rows.MonitorBothSaid :=
  OpenClaim.holds_of_wide 8 Try.f8 rfl rfl rfl rfl rfl rfl rfl ⟨rfl, rfl, rfl, rfl, rfl⟩ rfl rfl rfl rfl rfl (by kernel_rfl) Try.func8 (by kernel_rfl)
    (of_decide_eq_true (by kernel_rfl)) (by unfold Func.isWrapper; first | (rw [if_pos (by decide +kernel)]; kernel_rfl) | (rw [if_neg (by decide +kernel)]; exact ⟨rfl, rfl⟩))
    (fun os started H enc _ => monitorBoth_lifted os started H enc)
end Go.Proofs.Ytmmfbjmjhjmccaa
