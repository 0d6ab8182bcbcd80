import Derived.Test.YtojciffnkbfbhaaD4
import Derived.Shelf.Small.Bits
/-
  Plane: the library's bits.Len keeps its contract.
-/
namespace Go.Proofs.Ytojciffnkbfbhaa.Am
open Go
set_option linter.unusedVariables false
def lenRen : Shelf.Ren where
  f := fun | 125 => 75 | 128 => 84 | 129 => 85 | n => n
  t := fun | 46 => 93 | 3 => 3 | 51 => 104 | 53 => 106 | 4 => 4 | 5 => 5 | 9 => 9 | n => n
  g := id
theorem lenLays : Lays.n125 Try.prog lenRen :=
  { mixed := Eq.refl true, f125 := Eq.trans Try.func75 (congrArg some (Eq.refl (Body.n125 lenRen))), f128 := Eq.trans Try.func84 (congrArg some (Eq.refl (Body.n128 lenRen))), f129 := Eq.trans Try.func85 (congrArg some (Eq.refl (Body.n129 lenRen))),
    t3 := Try.underlying3, a3 := Try.isAgg3, z3 := Try.sizeOf3, v3 := Try.zeroValue3, t4 := Try.underlying4, a4 := Try.isAgg4, z4 := Try.sizeOf4, v4 := Try.zeroValue4, t5 := Try.underlying5, a5 := Try.isAgg5, z5 := Try.sizeOf5, v5 := Try.zeroValue5,
    t9 := Try.underlying9, a9 := Try.isAgg9, z9 := Try.sizeOf9, v9 := Try.zeroValue9, t46 := Try.underlying93, a46 := Try.isAgg93, z46 := Try.sizeOf93, v46 := Try.zeroValue93,
    t51 := Try.underlying104, a51 := Try.isAgg104, z51 := Try.sizeOf104, v51 := Try.zeroValue104, t53 := Try.underlying106, a53 := Try.isAgg106, z53 := Try.sizeOf106, v53 := Try.zeroValue106 }
def sBits : Spec
  | [.v (.int .u64 n)] => some (0 ≤ n ∧ n ≤ 1000000, .i (Lib.bitLen n.toNat))
  | _ => none
theorem bits_fok : FOK Try.prog 75 sBits := ⟨⟨Try.f75, Try.func75, by kernel_rfl, by kernel_rfl⟩, by
  intro args vc r h hv
  unfold sBits at h
  split at h
  · cases h
    intro σ vs hM hp hr
    simp only [RepL, Rep] at hr
    obtain ⟨y, ys, rfl, rfl, rfl⟩ := hr
    refine (Any.bits_Len lenLays _ σ.w hv.1 (by omega)).mono ?_
    rintro e w' ⟨rfl, rfl⟩
    exact ⟨_, rfl, fun b o h => h, SameO.refl _, rfl, rfl⟩
  · simp at h⟩
end Go.Proofs.Ytojciffnkbfbhaa.Am
