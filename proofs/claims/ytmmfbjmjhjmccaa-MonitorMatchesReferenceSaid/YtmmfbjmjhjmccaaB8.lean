/-
  Proves MonitorMatchesReference: for every input the law returns true, and the arguments read as before. No condition.
-/
import Derived.Test.YtmmfbjmjhjmccaaD6
import Derived.Test.YtmmfbjmjhjmccaaM16
import Derived.Test.YtmmfbjmjhjmccaaA7
import Derived.Test.YtmmfbjmjhjmccaaRows
import Derived.ProofKit
namespace Go.Proofs.Ytmmfbjmjhjmccaa.Am
set_option linter.unusedVariables false
set_option linter.unusedSimpArgs false
open Go
theorem lr_i {rows : List (List AV)} (h : ∀ r ∈ rows, CellsOK [.i] r) : ∃ l : List Int, rows = l.map row1 ∧ ∀ n ∈ l, inJ n := by
  induction rows with
  | nil => exact ⟨[], rfl, by simp⟩
  | cons r rows ih =>
    obtain ⟨l, rfl, hh⟩ := ih fun r hr => h r (by simp [hr])
    have := h r (by simp)
    simp only [CellsOK, CellOK] at this
    obtain ⟨_, _, rfl, ⟨a0, h0, rfl⟩, rfl⟩ := this
    exact ⟨a0 :: l, rfl, fun m hm => by rcases List.mem_cons.1 hm with rfl | hm; exact h0; exact hh m hm⟩
theorem lr_iii {rows : List (List AV)} (h : ∀ r ∈ rows, CellsOK [.i, .i, .i] r) : ∃ l : List (Int × Int × Int), rows = l.map row3 ∧ ∀ n ∈ l, inJ n.1 ∧ inJ n.2.1 ∧ inJ n.2.2 := by
  induction rows with
  | nil => exact ⟨[], rfl, by simp⟩
  | cons r rows ih =>
    obtain ⟨l, rfl, hh⟩ := ih fun r hr => h r (by simp [hr])
    have := h r (by simp)
    simp only [CellsOK, CellOK] at this
    obtain ⟨_, _, rfl, ⟨a0, h0, rfl⟩, _, _, rfl, ⟨a1, h1, rfl⟩, _, _, rfl, ⟨a2, h2, rfl⟩, rfl⟩ := this
    exact ⟨(a0, a1, a2) :: l, rfl, fun m hm => by rcases List.mem_cons.1 hm with rfl | hm; exact ⟨h0, h1, h2⟩; exact hh m hm⟩
theorem lr_ii {rows : List (List AV)} (h : ∀ r ∈ rows, CellsOK [.i, .i] r) : ∃ l : List (Int × Int), rows = l.map row2 ∧ ∀ n ∈ l, inJ n.1 ∧ inJ n.2 := by
  induction rows with
  | nil => exact ⟨[], rfl, by simp⟩
  | cons r rows ih =>
    obtain ⟨l, rfl, hh⟩ := ih fun r hr => h r (by simp [hr])
    have := h r (by simp)
    simp only [CellsOK, CellOK] at this
    obtain ⟨_, _, rfl, ⟨a0, h0, rfl⟩, _, _, rfl, ⟨a1, h1, rfl⟩, rfl⟩ := this
    exact ⟨(a0, a1) :: l, rfl, fun m hm => by rcases List.mem_cons.1 hm with rfl | hm; exact ⟨h0, h1⟩; exact hh m hm⟩
theorem monitorMatchesReference_pc (cs : List AV) (h : ArgsOK [(true, [.i, .i, .s [.i], .s [.i, .i, .i], .i, .i, .i, .s [.i], .s [.i, .i]]), (true, [.i, .i, .s [.i], .s [.i, .i, .i], .i, .i, .i, .s [.i], .s [.i, .i]]), (true, [.i, .i, .i]), (true, [.i, .s [.i, .i, .i], .i, .i, .s [.i, .i]]), (false, [.i]), (false, [.i]), (true, [.i, .i])] cs) : PCall Try.prog 3 cs (.b true) := by
  simp only [ArgsOK] at h
  obtain ⟨a0, _, rfl, ha0, a1, _, rfl, ha1, a2, _, rfl, ha2, a3, _, rfl, ha3, a4, _, rfl, ha4, a5, _, rfl, ha5, a6, _, rfl, ha6, rfl⟩ := h
  simp only [ArgOK, CellsOK, CellOK] at ha0
  obtain ⟨_, rfl, _, _, rfl, ⟨v0_0, kv0_0, rfl⟩, _, _, rfl, ⟨v0_1, kv0_1, rfl⟩, _, _, rfl, ⟨rv0_2, rfl, kv0_2⟩, _, _, rfl, ⟨rv0_3, rfl, kv0_3⟩, _, _, rfl, ⟨v0_4, kv0_4, rfl⟩, _, _, rfl, ⟨v0_5, kv0_5, rfl⟩, _, _, rfl, ⟨v0_6, kv0_6, rfl⟩, _, _, rfl, ⟨rv0_7, rfl, kv0_7⟩, _, _, rfl, ⟨rv0_8, rfl, kv0_8⟩, rfl⟩ := ha0
  obtain ⟨v0_2, rfl, qv0_2⟩ := lr_i (by simpa only [CellsOK, CellOK] using kv0_2)
  obtain ⟨v0_3, rfl, qv0_3⟩ := lr_iii (by simpa only [CellsOK, CellOK] using kv0_3)
  obtain ⟨v0_7, rfl, qv0_7⟩ := lr_i (by simpa only [CellsOK, CellOK] using kv0_7)
  obtain ⟨v0_8, rfl, qv0_8⟩ := lr_ii (by simpa only [CellsOK, CellOK] using kv0_8)
  simp only [ArgOK, CellsOK, CellOK] at ha1
  obtain ⟨_, rfl, _, _, rfl, ⟨v1_0, kv1_0, rfl⟩, _, _, rfl, ⟨v1_1, kv1_1, rfl⟩, _, _, rfl, ⟨rv1_2, rfl, kv1_2⟩, _, _, rfl, ⟨rv1_3, rfl, kv1_3⟩, _, _, rfl, ⟨v1_4, kv1_4, rfl⟩, _, _, rfl, ⟨v1_5, kv1_5, rfl⟩, _, _, rfl, ⟨v1_6, kv1_6, rfl⟩, _, _, rfl, ⟨rv1_7, rfl, kv1_7⟩, _, _, rfl, ⟨rv1_8, rfl, kv1_8⟩, rfl⟩ := ha1
  obtain ⟨v1_2, rfl, qv1_2⟩ := lr_i (by simpa only [CellsOK, CellOK] using kv1_2)
  obtain ⟨v1_3, rfl, qv1_3⟩ := lr_iii (by simpa only [CellsOK, CellOK] using kv1_3)
  obtain ⟨v1_7, rfl, qv1_7⟩ := lr_i (by simpa only [CellsOK, CellOK] using kv1_7)
  obtain ⟨v1_8, rfl, qv1_8⟩ := lr_ii (by simpa only [CellsOK, CellOK] using kv1_8)
  simp only [ArgOK, CellsOK, CellOK] at ha2
  obtain ⟨_, rfl, _, _, rfl, ⟨v2_0, kv2_0, rfl⟩, _, _, rfl, ⟨v2_1, kv2_1, rfl⟩, _, _, rfl, ⟨v2_2, kv2_2, rfl⟩, rfl⟩ := ha2
  simp only [ArgOK, CellsOK, CellOK] at ha3
  obtain ⟨_, rfl, _, _, rfl, ⟨v3_0, kv3_0, rfl⟩, _, _, rfl, ⟨rv3_1, rfl, kv3_1⟩, _, _, rfl, ⟨v3_2, kv3_2, rfl⟩, _, _, rfl, ⟨v3_3, kv3_3, rfl⟩, _, _, rfl, ⟨rv3_4, rfl, kv3_4⟩, rfl⟩ := ha3
  obtain ⟨v3_1, rfl, qv3_1⟩ := lr_iii (by simpa only [CellsOK, CellOK] using kv3_1)
  obtain ⟨v3_4, rfl, qv3_4⟩ := lr_ii (by simpa only [CellsOK, CellOK] using kv3_4)
  simp only [ArgOK, CellsOK, CellOK] at ha4
  obtain ⟨_, _, e4, ⟨v4_0, kv4_0, rfl⟩, rfl⟩ := ha4
  simp at e4; subst e4
  simp only [ArgOK, CellsOK, CellOK] at ha5
  obtain ⟨_, _, e5, ⟨v5_0, kv5_0, rfl⟩, rfl⟩ := ha5
  simp at e5; subst e5
  simp only [ArgOK, CellsOK, CellOK] at ha6
  obtain ⟨_, rfl, _, _, rfl, ⟨v6_0, kv6_0, rfl⟩, _, _, rfl, ⟨v6_1, kv6_1, rfl⟩, rfl⟩ := ha6
  refine PCall.arg ?_ (D_putloglaw24_MonitorMatchesReference_ok 3000 v0_0 v0_1 v0_2 v0_3 v0_4 v0_5 v0_6 v0_7 v0_8 v1_0 v1_1 v1_2 v1_3 v1_4 v1_5 v1_6 v1_7 v1_8 v2_0 v2_1 v2_2 v3_0 v3_1 v3_2 v3_3 v3_4 v4_0 v5_0 v6_0 v6_1 true ?_)
  · simp only [wkL, wk, and_true, true_and, Bool.false_eq_true, false_implies, implies_true, List.map_map]
    try (repeat' (first | exact True.intro | exact rfl | exact .inl rfl | apply And.intro))
  · exact pureMatches ⟨v0_0, v0_1, v0_2, v0_3, v0_4, v0_5, v0_6, v0_7, v0_8⟩ ⟨kv0_0, kv0_1, qv0_2, qv0_3, kv0_4, kv0_5, kv0_6, qv0_7, qv0_8⟩ ⟨v1_0, v1_1, v1_2, v1_3, v1_4, v1_5, v1_6, v1_7, v1_8⟩ ⟨kv1_0, kv1_1, qv1_2, qv1_3, kv1_4, kv1_5, kv1_6, qv1_7, qv1_8⟩ v2_0 v2_1 v2_2 v3_0 v3_1 v3_2 v3_3 v3_4 v4_0 v5_0 v6_0 v6_1 kv2_0 kv2_1 kv2_2 kv4_0 kv5_0 kv6_0 kv6_1
end Go.Proofs.Ytmmfbjmjhjmccaa.Am

namespace Go.Proofs.Ytmmfbjmjhjmccaa
open Go.ChangeShapes Go.WideShapes Go.ChangeAt Go.RowKit
set_option linter.unusedVariables false

theorem lawOwn : ownKnob Try.prog.godebug = none := by kernel_rfl
theorem lawLaid : laidOutB Try.prog = true := by kernel_rfl

set_option maxRecDepth 100000 in
theorem monitorMatchesReference_lifted (os : Os) (started : os.Started) (H : Type) (enc : TypeId × Value → H) :
    ReturnsInHanded {} Try.checked os 3 .any (Rows.monitorMatchesReferenceSpec.pre6 enc Try.prog Try.f3 Rows.monitorMatchesReferenceRow.domain false) (Rows.monitorMatchesReferenceSpec.post enc Try.prog Try.f3 false true false false) := by
  refine returnsInHanded_of_change (C := Try.checked) lawOwn started (by kernel_rfl) Try.func3
    (ChangeSpec.witness6 (enc := enc) (C := Try.checked) false ⟨#[], #[.agg #[.int .i64 0, .int .i64 0, .slice none 0 0, .slice none 0 0, .int .i64 0, .int .i64 0, .int .i64 0, .slice none 0 0, .slice none 0 0], .agg #[.int .i64 0, .int .i64 0, .slice none 0 0, .slice none 0 0, .int .i64 0, .int .i64 0, .int .i64 0, .slice none 0 0, .slice none 0 0], .agg #[.int .i64 0, .int .i64 0, .int .i64 0], .agg #[.int .i64 0, .slice none 0 0, .int .i64 0, .int .i64 0, .slice none 0 0], .int .i64 0, .int .i64 0, .agg #[.int .i64 0, .int .i64 0]], []⟩ 8 (by kernel_rfl) (by kernel_rfl) (by kernel_rfl) (by kernel_rfl)) ?_
  intro W base args ds gs before hval hW _ _
  exact Am.law_contract (P := Try.prog) (fn := Try.f3) (s := Rows.monitorMatchesReferenceSpec) (tb := 4) Am.monitorMatchesReference_pc (by kernel_rfl) rfl
    (fun ds h => match ds, h with
      | [_, _, _, _, _, _, _], _ => rfl) (by kernel_rfl) (by kernel_rfl) lawLaid (by kernel_rfl) W base args ds gs before hval hW

theorem monitorMatchesReference_holds : Rows.MonitorMatchesReferenceSaid :=
  OpenClaim.holds_of_wide 3 Try.f3 rfl rfl rfl rfl rfl rfl rfl ⟨rfl, rfl, rfl, rfl, rfl⟩ rfl rfl rfl rfl rfl (by kernel_rfl) Try.func3 (by kernel_rfl)
    (of_decide_eq_true (by kernel_rfl)) (by unfold Func.isWrapper; first | (rw [if_pos (by decide +kernel)]; kernel_rfl) | (rw [if_neg (by decide +kernel)]; exact ⟨rfl, rfl⟩))
    (fun os started H enc _ => monitorMatchesReference_lifted os started H enc)
end Go.Proofs.Ytmmfbjmjhjmccaa
