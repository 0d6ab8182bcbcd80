/-
  Proves PlanePick: for every input the law returns true, and the arguments read as before. No condition.
-/
import Derived.Test.YtojciffnkbfbhaaMO
import Derived.Test.YtojciffnkbfbhaaA7
import Derived.Test.YtojciffnkbfbhaaRows
import Derived.ProofKit
namespace Go.Proofs.Ytojciffnkbfbhaa.Am
set_option linter.unusedVariables false
set_option linter.unusedSimpArgs false
open Go
theorem lr_ii {rows : List (List AV)} (h : ∀ r ∈ rows, CellsOK [.i, .i] r) : ∃ l : List (Int × Int), rows = l.map e_ii ∧ ∀ n ∈ l, inJ n.1 ∧ inJ n.2 := by
  induction rows with
  | nil => exact ⟨[], rfl, by simp⟩
  | cons r rows ih =>
    obtain ⟨l, rfl, hh⟩ := ih fun r hr => h r (by simp [hr])
    have := h r (by simp)
    simp only [CellsOK, CellOK] at this
    obtain ⟨_, _, rfl, ⟨a0, h0, rfl⟩, _, _, rfl, ⟨a1, h1, rfl⟩, rfl⟩ := this
    exact ⟨(a0, a1) :: l, rfl, fun m hm => by rcases List.mem_cons.1 hm with rfl | hm; exact ⟨h0, h1⟩; exact hh m hm⟩
theorem planePick_pc (cs : List AV) (h : ArgsOK [(false, [.s [.i, .i]])] cs) : PCall Try.prog 4 cs (.b true) := by
  simp only [ArgsOK] at h
  obtain ⟨a0, _, rfl, ha0, rfl⟩ := h
  simp only [ArgOK, CellsOK, CellOK] at ha0
  obtain ⟨_, _, e0, ⟨rv0_0, rfl, kv0_0⟩, rfl⟩ := ha0
  simp at e0; subst e0
  obtain ⟨v0_0, rfl, qv0_0⟩ := lr_ii (by simpa only [CellsOK, CellOK] using kv0_0)
  refine PCall.arg ?_ (D_putloglaw07_PlanePick_ok 2000 v0_0 true ?_)
  · simp only [wkL, wk, and_true, true_and, Bool.false_eq_true, false_implies, implies_true, List.map_map]
    try (repeat' (first | exact True.intro | exact rfl | exact .inl rfl | exact .inl True.intro | apply And.intro))
  · exact purePick v0_0 qv0_0
end Go.Proofs.Ytojciffnkbfbhaa.Am

namespace Go.Proofs.Ytojciffnkbfbhaa
open Go.ChangeShapes Go.WideShapes Go.ChangeAt Go.RowKit
set_option linter.unusedVariables false

theorem lawOwn : ownKnob Try.prog.godebug = none := by kernel_rfl
theorem lawLaid : laidOutB Try.prog = true := by kernel_rfl

set_option maxRecDepth 100000 in
theorem planePick_lifted (os : Os) (started : os.Started) (H : Type) (enc : TypeId × Value → H) :
    ReturnsInHanded {} Try.checked os 4 .any (Rows.planePickSpec.pre6 enc Try.prog Try.f4 Rows.planePickRow.domain false) (Rows.planePickSpec.post enc Try.prog Try.f4 false true false false) := by
  refine returnsInHanded_of_change (C := Try.checked) lawOwn started (by kernel_rfl) Try.func4
    (ChangeSpec.witness6 (enc := enc) (C := Try.checked) false ⟨#[], #[.slice none 0 0], []⟩ 8 (by kernel_rfl) (by kernel_rfl) (by kernel_rfl) (by kernel_rfl)) ?_
  intro W base args ds gs before hval hW _ _
  exact Am.law_contract (P := Try.prog) (fn := Try.f4) (s := Rows.planePickSpec) (tb := 4) Am.planePick_pc (by kernel_rfl) rfl
    (fun ds h => match ds, h with
      | [_], _ => rfl) (by kernel_rfl) (by kernel_rfl) lawLaid (by kernel_rfl) W base args ds gs before hval hW

theorem planePick_holds : Rows.PlanePickSaid :=
  OpenClaim.holds_of_wide 4 Try.f4 rfl rfl rfl rfl rfl rfl rfl ⟨rfl, rfl, rfl, rfl, rfl⟩ rfl rfl rfl rfl rfl (by kernel_rfl) Try.func4 (by kernel_rfl)
    (of_decide_eq_true (by kernel_rfl)) (by unfold Func.isWrapper; first | (rw [if_pos (by decide +kernel)]; kernel_rfl) | (rw [if_neg (by decide +kernel)]; exact ⟨rfl, rfl⟩))
    (fun os started H enc _ => planePick_lifted os started H enc)
end Go.Proofs.Ytojciffnkbfbhaa
