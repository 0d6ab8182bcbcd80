import Derived.Test.YtdabfcbelkjmgaaDoorD4
import Derived.Shelf.Small.Bits
/-
  Plane: the library's bits.Len keeps its contract.
-/
namespace Go.Proofs.YtdabfcbelkjmgaaDoor.Am
open Go
set_option linter.unusedVariables false
def lenRen : Shelf.Ren where
  f := fun | 125 => 83 | 128 => 95 | 129 => 96 | n => n
  t := fun | 46 => 138 | 3 => 3 | 51 => 155 | 53 => 137 | 4 => 4 | 5 => 5 | 9 => 9 | n => n
  g := id
theorem lenLays : Lays.n125 Tryd.prog lenRen :=
  { mixed := Eq.refl true, f125 := Eq.trans Tryd.func83 (congrArg some (Eq.refl (Body.n125 lenRen))), f128 := Eq.trans Tryd.func95 (congrArg some (Eq.refl (Body.n128 lenRen))), f129 := Eq.trans Tryd.func96 (congrArg some (Eq.refl (Body.n129 lenRen))),
    t3 := Tryd.underlying3, a3 := Tryd.isAgg3, z3 := Tryd.sizeOf3, v3 := Tryd.zeroValue3, t4 := Tryd.underlying4, a4 := Tryd.isAgg4, z4 := Tryd.sizeOf4, v4 := Tryd.zeroValue4, t5 := Tryd.underlying5, a5 := Tryd.isAgg5, z5 := Tryd.sizeOf5, v5 := Tryd.zeroValue5,
    t9 := Tryd.underlying9, a9 := Tryd.isAgg9, z9 := Tryd.sizeOf9, v9 := Tryd.zeroValue9, t46 := Tryd.underlying138, a46 := Tryd.isAgg138, z46 := Tryd.sizeOf138, v46 := Tryd.zeroValue138,
    t51 := Tryd.underlying155, a51 := Tryd.isAgg155, z51 := Tryd.sizeOf155, v51 := Tryd.zeroValue155, t53 := Tryd.underlying137, a53 := Tryd.isAgg137, z53 := Tryd.sizeOf137, v53 := Tryd.zeroValue137 }
def sBits : Spec
  | [.v (.int .u64 n)] => some (0 ≤ n ∧ n ≤ 1000000, .i (Lib.bitLen n.toNat))
  | _ => none
theorem bits_fok : FOK Tryd.prog 83 sBits := ⟨⟨Tryd.f83, Tryd.func83, by kernel_rfl, by kernel_rfl⟩, by
  intro args vc r h hv
  unfold sBits at h
  split at h
  · cases h
    intro σ vs hG hM hp hr
    simp only [RepL, Rep] at hr
    obtain ⟨y, ys, rfl, rfl, rfl⟩ := hr
    refine (Any.bits_Len lenLays _ σ.w hv.1 (by omega)).mono ?_
    rintro e w' ⟨rfl, rfl⟩
    exact ⟨_, rfl, fun b o h => h, SameO.refl _, rfl, rfl⟩
  · simp at h⟩
end Go.Proofs.YtdabfcbelkjmgaaDoor.Am
