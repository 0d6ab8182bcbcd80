import Derived.Test.YtdabfcbelkjmgaaDoorMB
import Derived.Test.YtdabfcbelkjmgaaDoorU1
/-
  unit.Move.
-/
namespace Go.Proofs.YtdabfcbelkjmgaaDoor.Am
set_option linter.unusedSimpArgs false
set_option linter.unusedVariables false
open Classical in
theorem umove_eq {N : Nat} (hN : 100 ≤ N) {a b c : Int} {l : List Pt} {p q : Int} (h : UP a b c l p q) {d : Pt} (hd : mvOK d) :
    D_unit_Move N a b c l p q d.1 d.2 = some (if ∀ x ∈ l, On (mv d x) then ((a, b, c, l.map (mv d), p, q), 0) else ((0, 0, 0, [], 0, 0), 80)) := by
  unfold D_unit_Move
  rw [move_eq hN h.l hd, uvalid_t hN h]
  by_cases ho : ∀ x ∈ l, On (mv d x)
  · rw [if_pos ho, if_pos ho, bS]
    simp only
    rw [gd_t (fun _ => Option.isSome_some), cF' _ (by rfl)]
  · rw [if_neg ho, if_neg ho, bS]
    simp only
    rw [gd_t (fun _ => Option.isSome_some), cT' _ (by rfl)]
end Go.Proofs.YtdabfcbelkjmgaaDoor.Am
