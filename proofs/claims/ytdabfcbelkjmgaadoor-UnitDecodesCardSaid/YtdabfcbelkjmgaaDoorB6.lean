/-
  Proves UnitDecodes: for every input the law returns true, and the arguments read as before. No condition.
-/
import Derived.Test.YtdabfcbelkjmgaaDoorW3
import Derived.Test.YtdabfcbelkjmgaaDoorA7
import Derived.Test.YtdabfcbelkjmgaaDoorV1
import Derived.SevenTiedAt
import Derived.ProofKit
namespace Go.Proofs.YtdabfcbelkjmgaaDoor.Am
set_option linter.unusedVariables false
set_option linter.unusedSimpArgs false
open Go
theorem lr_ii {rows : List (List AV)} (h : ∀ r ∈ rows, CellsOK [.i, .i] r) : ∃ l : List (Int × Int), rows = l.map e_ii ∧ ∀ n ∈ l, inJ n.1 ∧ inJ n.2 := by
  induction rows with
  | nil => exact ⟨[], rfl, by simp⟩
  | cons r rows ih =>
    obtain ⟨l, rfl, hh⟩ := ih fun r hr => h r (by simp [hr])
    have := h r (by simp)
    simp only [CellsOK, CellOK] at this
    obtain ⟨_, _, rfl, ⟨a0, h0, rfl⟩, _, _, rfl, ⟨a1, h1, rfl⟩, rfl⟩ := this
    exact ⟨(a0, a1) :: l, rfl, fun m hm => by rcases List.mem_cons.1 hm with rfl | hm; exact ⟨h0, h1⟩; exact hh m hm⟩
theorem unitDecodes_pc (cs : List AV) (h : ArgsOK [(false, [.s [.i, .i]]), (false, [.s [.i, .i]]), (false, [.i]), (true, [.i, .i, .i, .i]), (true, [.i, .i, .i, .i]), (false, [.i]), (false, [.y]), (false, [.t])] cs) : PCall Tryd.prog 6 cs (.b true) := by
  simp only [ArgsOK] at h
  obtain ⟨a0, _, rfl, ha0, a1, _, rfl, ha1, a2, _, rfl, ha2, a3, _, rfl, ha3, a4, _, rfl, ha4, a5, _, rfl, ha5, a6, _, rfl, ha6, a7, _, rfl, ha7, rfl⟩ := h
  simp only [ArgOK, CellsOK, CellOK] at ha0
  obtain ⟨_, _, e0, ⟨rv0_0, rfl, kv0_0⟩, rfl⟩ := ha0
  simp at e0; subst e0
  obtain ⟨v0_0, rfl, qv0_0⟩ := lr_ii (by simpa only [CellsOK, CellOK] using kv0_0)
  simp only [ArgOK, CellsOK, CellOK] at ha1
  obtain ⟨_, _, e1, ⟨rv1_0, rfl, kv1_0⟩, rfl⟩ := ha1
  simp at e1; subst e1
  obtain ⟨v1_0, rfl, qv1_0⟩ := lr_ii (by simpa only [CellsOK, CellOK] using kv1_0)
  simp only [ArgOK, CellsOK, CellOK] at ha2
  obtain ⟨_, _, e2, ⟨v2_0, kv2_0, rfl⟩, rfl⟩ := ha2
  simp at e2; subst e2
  simp only [ArgOK, CellsOK, CellOK] at ha3
  obtain ⟨_, rfl, _, _, rfl, ⟨v3_0, kv3_0, rfl⟩, _, _, rfl, ⟨v3_1, kv3_1, rfl⟩, _, _, rfl, ⟨v3_2, kv3_2, rfl⟩, _, _, rfl, ⟨v3_3, kv3_3, rfl⟩, rfl⟩ := ha3
  simp only [ArgOK, CellsOK, CellOK] at ha4
  obtain ⟨_, rfl, _, _, rfl, ⟨v4_0, kv4_0, rfl⟩, _, _, rfl, ⟨v4_1, kv4_1, rfl⟩, _, _, rfl, ⟨v4_2, kv4_2, rfl⟩, _, _, rfl, ⟨v4_3, kv4_3, rfl⟩, rfl⟩ := ha4
  simp only [ArgOK, CellsOK, CellOK] at ha5
  obtain ⟨_, _, e5, ⟨v5_0, kv5_0, rfl⟩, rfl⟩ := ha5
  simp at e5; subst e5
  simp only [ArgOK, CellsOK, CellOK] at ha6
  obtain ⟨_, _, e6, ⟨v6_0, kv6_0, rfl⟩, rfl⟩ := ha6
  simp at e6; subst e6
  simp only [ArgOK, CellsOK, CellOK] at ha7
  obtain ⟨_, _, e7, ⟨v7_0, kv7_0, rfl⟩, rfl⟩ := ha7
  simp at e7; subst e7
  refine PCall.arg ?_ (D_putloglaw08_UnitDecodes_ok 2000 v0_0 v1_0 v2_0 v3_0 v3_1 v3_2 v3_3 v4_0 v4_1 v4_2 v4_3 v5_0 v6_0 v7_0 true ?_)
  · simp only [wkL, wk, and_true, true_and, Bool.false_eq_true, false_implies, implies_true, List.map_map]
    try (repeat' (first | exact True.intro | exact rfl | exact .inl rfl | exact .inl True.intro | apply And.intro))
  · exact pureDecodes v0_0 v1_0 v2_0 v3_0 v3_1 v3_2 v3_3 v4_0 v4_1 v4_2 v4_3 v5_0 v6_0 v7_0 qv0_0 qv1_0 kv2_0 kv3_0 kv3_1 kv3_2 kv3_3 kv4_0 kv4_1 kv4_2 kv4_3 kv5_0 kv6_0 kv7_0
end Go.Proofs.YtdabfcbelkjmgaaDoor.Am

namespace Go.Proofs.YtdabfcbelkjmgaaDoor
open Go.ChangeShapes Go.WideShapes Go.ChangeAt Go.RowKit
set_option linter.unusedVariables false

set_option maxRecDepth 100000 in
theorem unitDecodes_lifted (os : Os) (started : os.Started) (H : Type) (enc : TypeId × Value → H) :
    ReturnsInHanded {} Tryd.checked os 6 .any (fun w args => (Rows.unitDecodesSpec.pre enc Tryd.prog Tryd.f6 [] false w args ∧ laidMetH Tryd.prog [("putlog/unit.stuffs", Rows.laid_putlog_unit_stuffs)] w) ∧ sizedMet enc Tryd.prog Tryd.f6 (OpenSpec.ofChange Rows.unitDecodesSpec) false w args)
      (Rows.unitDecodesSpec.post enc Tryd.prog Tryd.f6 false true false false) := by
  refine returnsInHanded_of_change_and (C := Tryd.checked) (X := fun w _ => laidMetH Tryd.prog [("putlog/unit.stuffs", Rows.laid_putlog_unit_stuffs)] w) (fun _ _ _ hh h => h.of_heap hh) lawOwn started (by kernel_rfl) Tryd.func6
    (ChangeSpec.witness_shaped (enc := enc) (C := Tryd.checked) (os := os) (X := fun w _ => laidMetH Tryd.prog [("putlog/unit.stuffs", Rows.laid_putlog_unit_stuffs)] w) false (World.doorLaid Tryd.prog 400 os) #[.slice none 0 0, .slice none 0 0, .int .i64 0, .agg #[.int .i64 0, .int .i64 0, .int .i64 0, .int .i64 0], .agg #[.int .i64 0, .int .i64 0, .int .i64 0, .int .i64 0], .int .i64 0, .int .u8 0, .string .empty] 8 rfl (World.shaped_of_RefB (by kernel_rfl) (by kernel_rfl)) (by kernel_rfl) (by kernel_rfl) (by kernel_rfl) (door_met os _)) ?_
  intro W base args ds gs before hval hW _ _ hL _
  exact Am.law_contract (P := Tryd.prog) (fn := Tryd.f6) (s := Rows.unitDecodesSpec) (tb := 4) Am.unitDecodes_pc (by kernel_rfl) rfl
    (fun ds h => match ds, h with
      | [_, _, _, _, _, _, _, _], _ => rfl) (by kernel_rfl) (by kernel_rfl) lawLaid (by kernel_rfl) W base args ds gs before hval hW (gl_of_laid hL)

theorem unitDecodes_row : Rows.UnitDecodesSaid :=
  OpenClaim.holds_of_wide 6 Tryd.f6 rfl rfl rfl rfl rfl rfl rfl ⟨rfl, rfl, rfl, rfl, rfl⟩ rfl rfl rfl rfl rfl (by kernel_rfl) Tryd.func6 (by kernel_rfl)
    (of_decide_eq_true (by kernel_rfl)) (by unfold Func.isWrapper; first | (rw [if_pos (by decide +kernel)]; kernel_rfl) | (rw [if_neg (by decide +kernel)]; exact ⟨rfl, rfl⟩))
    (fun os started H enc _ => unitDecodes_lifted os started H enc)

theorem unitDecodes_holds : Rows.UnitDecodesCardSaid :=
  Claim7.holds_tied_plain_at .later [] [.data] true (true, "b05315b0ac4251b8c5b2813e950987b77667d4548bb7763c6c93899621997589") true
    unitDecodes_row (fun _ h => by cases h) (by kernel_rfl) (fun _ h => by cases h) unitDecodes_row_tie rfl ⟨rfl, rfl⟩ (by kernel_rfl) rfl
    (fun f fn hf hfn => by
      obtain rfl : f = 6 := Option.some.inj ((show Tryd.prog.funcNamed "putlog/putloglaw08.UnitDecodes" = some 6 by kernel_rfl).symm.trans hf) |>.symm
      obtain rfl : fn = Tryd.f6 := (Option.some.inj (Tryd.func6.symm.trans hfn)).symm
      exact ⟨by kernel_rfl, fun j t ht => by
        have hall : (Tryd.f6.params.toList.all fun u => !Tryd.prog.wantsStandIn u) = true := by kernel_rfl
        have hm : t ∈ Tryd.f6.params.toList := by simpa using Array.mem_of_getElem? ht
        exact (show Tryd.prog.wantsStandIn t = false by simpa using List.all_eq_true.1 hall t hm)⟩)
    (by kernel_rfl)
end Go.Proofs.YtdabfcbelkjmgaaDoor
