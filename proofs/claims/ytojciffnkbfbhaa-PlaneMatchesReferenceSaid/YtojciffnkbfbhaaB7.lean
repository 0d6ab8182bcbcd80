import Derived.Test.YtojciffnkbfbhaaMY
import Derived.Test.YtojciffnkbfbhaaA7
import Derived.Test.YtojciffnkbfbhaaRows
import Derived.ProofKit
/-
  Proves PlaneMatchesReference: for every input the law returns true, and the arguments read as before. No condition.
-/
namespace Go.Proofs.Ytojciffnkbfbhaa.Am
set_option linter.unusedVariables false
set_option linter.unusedSimpArgs false
open Go
theorem lr_ii {rows : List (List AV)} (h : ∀ r ∈ rows, CellsOK [.i, .i] r) : ∃ l : List (Int × Int), rows = l.map e_ii ∧ ∀ n ∈ l, inJ n.1 ∧ inJ n.2 := by
  induction rows with
  | nil => exact ⟨[], rfl, by simp⟩
  | cons r rows ih =>
    obtain ⟨l, rfl, hh⟩ := ih fun r hr => h r (by simp [hr])
    have := h r (by simp)
    simp only [CellsOK, CellOK] at this
    obtain ⟨_, _, rfl, ⟨a0, h0, rfl⟩, _, _, rfl, ⟨a1, h1, rfl⟩, rfl⟩ := this
    exact ⟨(a0, a1) :: l, rfl, fun m hm => by rcases List.mem_cons.1 hm with rfl | hm; exact ⟨h0, h1⟩; exact hh m hm⟩
theorem planeMatchesReference_pc (cs : List AV) (h : ArgsOK [(false, [.s [.i, .i]]), (false, [.s [.i, .i]]), (false, [.i]), (false, [.s [.i, .i]]), (false, [.s [.i, .i]]), (true, [.i, .i, .i]), (true, [.i, .i]), (false, [.i]), (false, [.i]), (false, [.i]), (false, [.i])] cs) : PCall Try.prog 3 cs (.b true) := by
  simp only [ArgsOK] at h
  obtain ⟨a0, _, rfl, ha0, a1, _, rfl, ha1, a2, _, rfl, ha2, a3, _, rfl, ha3, a4, _, rfl, ha4, a5, _, rfl, ha5, a6, _, rfl, ha6, a7, _, rfl, ha7, a8, _, rfl, ha8, a9, _, rfl, ha9, a10, _, rfl, ha10, rfl⟩ := h
  simp only [ArgOK, CellsOK, CellOK] at ha0
  obtain ⟨_, _, e0, ⟨rv0_0, rfl, kv0_0⟩, rfl⟩ := ha0
  simp at e0; subst e0
  obtain ⟨v0_0, rfl, qv0_0⟩ := lr_ii (by simpa only [CellsOK, CellOK] using kv0_0)
  simp only [ArgOK, CellsOK, CellOK] at ha1
  obtain ⟨_, _, e1, ⟨rv1_0, rfl, kv1_0⟩, rfl⟩ := ha1
  simp at e1; subst e1
  obtain ⟨v1_0, rfl, qv1_0⟩ := lr_ii (by simpa only [CellsOK, CellOK] using kv1_0)
  simp only [ArgOK, CellsOK, CellOK] at ha2
  obtain ⟨_, _, e2, ⟨v2_0, kv2_0, rfl⟩, rfl⟩ := ha2
  simp at e2; subst e2
  simp only [ArgOK, CellsOK, CellOK] at ha3
  obtain ⟨_, _, e3, ⟨rv3_0, rfl, kv3_0⟩, rfl⟩ := ha3
  simp at e3; subst e3
  obtain ⟨v3_0, rfl, qv3_0⟩ := lr_ii (by simpa only [CellsOK, CellOK] using kv3_0)
  simp only [ArgOK, CellsOK, CellOK] at ha4
  obtain ⟨_, _, e4, ⟨rv4_0, rfl, kv4_0⟩, rfl⟩ := ha4
  simp at e4; subst e4
  obtain ⟨v4_0, rfl, qv4_0⟩ := lr_ii (by simpa only [CellsOK, CellOK] using kv4_0)
  simp only [ArgOK, CellsOK, CellOK] at ha5
  obtain ⟨_, rfl, _, _, rfl, ⟨v5_0, kv5_0, rfl⟩, _, _, rfl, ⟨v5_1, kv5_1, rfl⟩, _, _, rfl, ⟨v5_2, kv5_2, rfl⟩, rfl⟩ := ha5
  simp only [ArgOK, CellsOK, CellOK] at ha6
  obtain ⟨_, rfl, _, _, rfl, ⟨v6_0, kv6_0, rfl⟩, _, _, rfl, ⟨v6_1, kv6_1, rfl⟩, rfl⟩ := ha6
  simp only [ArgOK, CellsOK, CellOK] at ha7
  obtain ⟨_, _, e7, ⟨v7_0, kv7_0, rfl⟩, rfl⟩ := ha7
  simp at e7; subst e7
  simp only [ArgOK, CellsOK, CellOK] at ha8
  obtain ⟨_, _, e8, ⟨v8_0, kv8_0, rfl⟩, rfl⟩ := ha8
  simp at e8; subst e8
  simp only [ArgOK, CellsOK, CellOK] at ha9
  obtain ⟨_, _, e9, ⟨v9_0, kv9_0, rfl⟩, rfl⟩ := ha9
  simp at e9; subst e9
  simp only [ArgOK, CellsOK, CellOK] at ha10
  obtain ⟨_, _, e10, ⟨v10_0, kv10_0, rfl⟩, rfl⟩ := ha10
  simp at e10; subst e10
  refine PCall.arg ?_ (D_putloglaw07_PlaneMatchesReference_ok 2000 v0_0 v1_0 v2_0 v3_0 v4_0 v5_0 v5_1 v5_2 v6_0 v6_1 v7_0 v8_0 v9_0 v10_0 true ?_)
  · simp only [wkL, wk, and_true, true_and, Bool.false_eq_true, false_implies, implies_true, List.map_map]
    try (repeat' (first | exact True.intro | exact rfl | exact .inl rfl | exact .inl True.intro | apply And.intro))
  · exact pureMatches v0_0 v1_0 v2_0 v3_0 v4_0 v5_0 v5_1 v5_2 v6_0 v6_1 v7_0 v8_0 v9_0 v10_0 qv0_0 qv1_0 kv2_0 qv3_0 qv4_0 kv5_0 kv5_1 kv5_2 kv6_0 kv6_1 kv7_0 kv8_0 kv9_0 kv10_0
end Go.Proofs.Ytojciffnkbfbhaa.Am

namespace Go.Proofs.Ytojciffnkbfbhaa
open Go.ChangeShapes Go.WideShapes Go.ChangeAt Go.RowKit
set_option linter.unusedVariables false

theorem lawOwn : ownKnob Try.prog.godebug = none := by kernel_rfl
theorem lawLaid : laidOutB Try.prog = true := by kernel_rfl

set_option maxRecDepth 100000 in
theorem planeMatchesReference_lifted (os : Os) (started : os.Started) (H : Type) (enc : TypeId × Value → H) :
    ReturnsInHanded {} Try.checked os 3 .any (Rows.planeMatchesReferenceSpec.pre6 enc Try.prog Try.f3 Rows.planeMatchesReferenceRow.domain false) (Rows.planeMatchesReferenceSpec.post enc Try.prog Try.f3 false true false false) := by
  refine returnsInHanded_of_change (C := Try.checked) lawOwn started (by kernel_rfl) Try.func3
    (ChangeSpec.witness6 (enc := enc) (C := Try.checked) false ⟨#[], #[.slice none 0 0, .slice none 0 0, .int .i64 0, .slice none 0 0, .slice none 0 0, .agg #[.int .i64 0, .int .i64 0, .int .i64 0], .agg #[.int .i64 0, .int .i64 0], .int .i64 0, .int .i64 0, .int .i64 0, .int .i64 0], []⟩ 8 (by kernel_rfl) (by kernel_rfl) (by kernel_rfl) (by kernel_rfl)) ?_
  intro W base args ds gs before hval hW _ _
  exact Am.law_contract (P := Try.prog) (fn := Try.f3) (s := Rows.planeMatchesReferenceSpec) (tb := 4) Am.planeMatchesReference_pc (by kernel_rfl) rfl
    (fun ds h => match ds, h with
      | [_, _, _, _, _, _, _, _, _, _, _], _ => rfl) (by kernel_rfl) (by kernel_rfl) lawLaid (by kernel_rfl) W base args ds gs before hval hW

theorem planeMatchesReference_holds : Rows.PlaneMatchesReferenceSaid :=
  OpenClaim.holds_of_wide 3 Try.f3 rfl rfl rfl rfl rfl rfl rfl ⟨rfl, rfl, rfl, rfl, rfl⟩ rfl rfl rfl rfl rfl (by kernel_rfl) Try.func3 (by kernel_rfl)
    (of_decide_eq_true (by kernel_rfl)) (by unfold Func.isWrapper; first | (rw [if_pos (by decide +kernel)]; kernel_rfl) | (rw [if_neg (by decide +kernel)]; exact ⟨rfl, rfl⟩))
    (fun os started H enc _ => planeMatchesReference_lifted os started H enc)
end Go.Proofs.Ytojciffnkbfbhaa
