import Derived.Test.YtdabfcbelkjmgaaDoorU1
import Derived.Test.YtdabfcbelkjmgaaDoorMA
/-
  Two units: the depths in common, whether they overlap, their contact.
-/
namespace Go.Proofs.YtdabfcbelkjmgaaDoor.Am
set_option linter.unusedSimpArgs false
set_option linter.unusedVariables false
theorem ucommon_eq {N : Nat} (hN : 100 ≤ N) {a b c : Int} {l : List Pt} {p q : Int} (h : UP a b c l p q) {a' b' c' : Int} {l' : List Pt} {p' q' : Int} (h' : UP a' b' c' l' p' q') :
    D_unit_common N a b c l p q a' b' c' l' p' q' = some (max p p', min q q', decide (max p p' < min q q')) := by
  unfold D_unit_common
  rw [uvalid_t hN h, uvalid_t hN h', gd_t (fun _ => Option.isSome_some), gd_t (fun _ => Option.isSome_some), Option.getD_some, Bool.and_true, Bool.and_true]
theorem uoverlap_eq {N : Nat} (hN : 1001 ≤ N) {a b c : Int} {l : List Pt} {p q : Int} (h : UP a b c l p q) {a' b' c' : Int} {l' : List Pt} {p' q' : Int} (h' : UP a' b' c' l' p' q') :
    D_unit_Overlap N a b c l p q a' b' c' l' p' q' = some (decide (max p p' < min q q') && !(sideS l l').2.2) := by
  unfold D_unit_Overlap
  rw [ucommon_eq (by omega) h h', bS]
  simp only
  rw [overlap_eq hN h.l h'.l, gd_t (fun _ => Option.isSome_some), Option.getD_some]
abbrev Con := Int × Int × (Pt × Pt) × Int × Int
def con0 : Con := (0, 0, ((0, 0), (0, 0)), 0, 0)
noncomputable def touchS (a a' : Int) (l l' : List Pt) (p q p' q' : Int) : Con × Bool :=
  if max p p' < min q q' then (bif (seamS l l').2 then ((a, a', (seamS l l').1, max p p', min q q'), true) else (con0, false)) else (con0, false)
theorem utouch_eq {N : Nat} (hN : 1001 ≤ N) {a b c : Int} {l : List Pt} {p q : Int} (h : UP a b c l p q) {a' b' c' : Int} {l' : List Pt} {p' q' : Int} (h' : UP a' b' c' l' p' q') :
    D_unit_Touch N a b c l p q a' b' c' l' p' q' = some (touchS a a' l l' p q p' q') := by
  unfold D_unit_Touch touchS
  rw [ucommon_eq (by omega) h h', bS]
  simp only
  by_cases hc : max p p' < min q q'
  · rw [decide_eq_true hc, cF' _ (by rfl), if_pos hc, seam_eq hN h.l h'.l, show seamS l l' = ((((seamS l l').1.1.1, (seamS l l').1.1.2), ((seamS l l').1.2.1, (seamS l l').1.2.2)), (seamS l l').2) from rfl, bS]
    simp only
    cases (seamS l l').2 with
    | true => rfl
    | false => rfl
  · rw [decide_eq_false hc, cT' _ (by rfl), if_neg hc]
    rfl
end Go.Proofs.YtdabfcbelkjmgaaDoor.Am
