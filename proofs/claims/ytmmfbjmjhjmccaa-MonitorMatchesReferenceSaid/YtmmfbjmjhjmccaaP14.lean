import Derived.Test.YtmmfbjmjhjmccaaP12
import Derived.Test.YtmmfbjmjhjmccaaM6
import Derived.Test.YtmmfbjmjhjmccaaA8
namespace Go.Proofs.Ytmmfbjmjhjmccaa.Am
open Go
attribute [local irreducible] awp seqK blkK backK endK inlK restK rngK asgK itK
set_option maxRecDepth 100000
set_option maxHeartbeats 8000000
set_option linter.unusedSimpArgs false
set_option linter.unusedVariables false
/-! Words for the decompiled functions of this seat. -/
theorem rb_row1 (R : List Int) (i : Nat) : rowAt (R.map row1) [.i 0] i = row1 (R.getD i 0) := by
  unfold rowAt; rw [List.getD_eq_getElem?_getD, List.getD_eq_getElem?_getD, List.getElem?_map]; cases R[i]? <;> rfl
theorem rb_row2 (R : List Sm) (i : Nat) : rowAt (R.map row2) [.i 0, .i 0] i = row2 (R.getD i (0, 0)) := by
  unfold rowAt; rw [List.getD_eq_getElem?_getD, List.getD_eq_getElem?_getD, List.getElem?_map]; cases R[i]? <;> rfl
theorem rb_row3 (R : List Rd3) (i : Nat) : rowAt (R.map row3) [.i 0, .i 0, .i 0] i = row3 (R.getD i (0, 0, 0)) := by
  unfold rowAt; rw [List.getD_eq_getElem?_getD, List.getD_eq_getElem?_getD, List.getElem?_map]; cases R[i]? <;> rfl
theorem styIn {a b e f g : Int} {c h : List Int} {d : List Rd3} {k : List Sm} : Sty.In ⟨a, b, c, d, e, f, g, h, k⟩ ↔ (inI a ∧ inI b ∧ (∀ r ∈ c, inI r) ∧ (∀ r ∈ d, inI r.1 ∧ inI r.2.1 ∧ inI r.2.2) ∧ inI e ∧ inI f ∧ inI g ∧ (∀ r ∈ h, inI r) ∧ ∀ r ∈ k, inI r.1 ∧ inI r.2) :=
  ⟨fun ⟨h1, h2, h3, h4, h5, h6, h7, h8, h9⟩ => ⟨h1, h2, h3, h4, h5, h6, h7, h8, h9⟩, fun ⟨h1, h2, h3, h4, h5, h6, h7, h8, h9⟩ => ⟨h1, h2, h3, h4, h5, h6, h7, h8, h9⟩⟩
end Go.Proofs.Ytmmfbjmjhjmccaa.Am
