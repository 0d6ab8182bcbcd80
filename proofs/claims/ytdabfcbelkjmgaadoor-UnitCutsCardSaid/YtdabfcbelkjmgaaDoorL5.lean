import Derived.Test.YtdabfcbelkjmgaaDoorE4
import Derived.Test.YtdabfcbelkjmgaaDoorDA
import Derived.Test.YtdabfcbelkjmgaaDoorAl8
namespace Go.Proofs.YtdabfcbelkjmgaaDoor.Am
open Go
attribute [local irreducible] awp seqK blkK backK endK inlK restK rngK asgK itK
set_option maxRecDepth 100000
set_option maxHeartbeats 8000000
set_option linter.unusedSimpArgs false
set_option linter.unusedVariables false
/-! putlog/putloglaw08.UnitCuts -/
def D_putloglaw08_UnitCuts (N : Nat) (x408 : List (Int × Int)) (y409 : List (Int × Int)) (how410 : Int) (p411 : Int) (p412 : Int) (p413 : Int) (p414 : Int) (i415 : Int) (k416 : Int) : Option Bool :=
  (D_putloglaw08_sane N).bind fun r417 =>
  bif !r417 then (
    some false)
  else (
    (D_putlogref08_Pair N x408 y409 how410 p411 p412 p413 p414 p411 p412 p413 p414).bind fun ((r419, r420, r421, r422, r423, r424), (r425, r426, r427, r428, r429, r430)) =>
    (D_putloglaw08_pick N i415 (r422.length : Int)).bind fun r432 =>
    (D_putloglaw08_pick N k416 (r422.length : Int)).bind fun r434 =>
    (D_plane_Cut N r422 r432 r434).bind fun (r436, r437, r438) =>
    bif decide (r438 ≠ 0) then (
      gd (I64 (r432 - r434)) <|
      gd ((!(((decide (r432 - r434 = 0)) || (decide (r432 - r434 = 1))) || (decide (r432 - r434 = (-1))))) = true → (I64 ((r422.length : Int) - 1))) <|
      gd ((!((((decide (r432 - r434 = 0)) || (decide (r432 - r434 = 1))) || (decide (r432 - r434 = (-1)))) || (decide (r432 - r434 = (r422.length : Int) - 1)))) = true → (I64 (1 - (r422.length : Int)))) <|
      some (((((decide (r432 - r434 = 0)) || (decide (r432 - r434 = 1))) || (decide (r432 - r434 = (-1)))) || (decide (r432 - r434 = (r422.length : Int) - 1))) || (decide (r432 - r434 = 1 - (r422.length : Int)))))
    else (
      (D_unit_Touch N r419 r420 r421 r436 r423 r424 r419 r420 r421 r437 r423 r424).bind fun ((r440, r441, ((r442, r443), (r444, r445)), r446, r447), r448) =>
      (nth r422 r434).bind fun (x450, x451) =>
      (nth r422 r432).bind fun (x453, x454) =>
      (D_unit_Volume2 N r419 r420 r421 r436 r423 r424).bind fun r456 =>
      (D_unit_Volume2 N r419 r420 r421 r437 r423 r424).bind fun r458 =>
      gd (I64 (r456 + r458)) <|
      (D_unit_Volume2 N r419 r420 r421 r422 r423 r424).bind fun r460 =>
      gd ((decide (r456 + r458 = r460)) = true → ((D_unit_Weight6 N r419 r420 r421 r436 r423 r424).isSome = true)) <|
      gd ((decide (r456 + r458 = r460)) = true → ((D_unit_Weight6 N r419 r420 r421 r437 r423 r424).isSome = true)) <|
      gd ((decide (r456 + r458 = r460)) = true → (I64 (((D_unit_Weight6 N r419 r420 r421 r436 r423 r424).getD 0) + ((D_unit_Weight6 N r419 r420 r421 r437 r423 r424).getD 0)))) <|
      gd ((decide (r456 + r458 = r460)) = true → ((D_unit_Weight6 N r419 r420 r421 r422 r423 r424).isSome = true)) <|
      gd (((decide (r456 + r458 = r460)) && (decide (((D_unit_Weight6 N r419 r420 r421 r436 r423 r424).getD 0) + ((D_unit_Weight6 N r419 r420 r421 r437 r423 r424).getD 0) = (D_unit_Weight6 N r419 r420 r421 r422 r423 r424).getD 0))) = true → ((D_unit_Moment6 N r419 r420 r421 r436 r423 r424).isSome = true)) <|
      gd (((decide (r456 + r458 = r460)) && (decide (((D_unit_Weight6 N r419 r420 r421 r436 r423 r424).getD 0) + ((D_unit_Weight6 N r419 r420 r421 r437 r423 r424).getD 0) = (D_unit_Weight6 N r419 r420 r421 r422 r423 r424).getD 0))) = true → ((D_unit_Moment6 N r419 r420 r421 r437 r423 r424).isSome = true)) <|
      gd (((decide (r456 + r458 = r460)) && (decide (((D_unit_Weight6 N r419 r420 r421 r436 r423 r424).getD 0) + ((D_unit_Weight6 N r419 r420 r421 r437 r423 r424).getD 0) = (D_unit_Weight6 N r419 r420 r421 r422 r423 r424).getD 0))) = true → (I64 (((D_unit_Moment6 N r419 r420 r421 r436 r423 r424).getD 0) + ((D_unit_Moment6 N r419 r420 r421 r437 r423 r424).getD 0)))) <|
      gd (((decide (r456 + r458 = r460)) && (decide (((D_unit_Weight6 N r419 r420 r421 r436 r423 r424).getD 0) + ((D_unit_Weight6 N r419 r420 r421 r437 r423 r424).getD 0) = (D_unit_Weight6 N r419 r420 r421 r422 r423 r424).getD 0))) = true → ((D_unit_Moment6 N r419 r420 r421 r422 r423 r424).isSome = true)) <|
      (D_unit_Valid N r419 r420 r421 r436 r423 r424).bind fun r462 =>
      gd (r462 = true → ((D_unit_Valid N r419 r420 r421 r437 r423 r424).isSome = true)) <|
      gd (((r462 && ((D_unit_Valid N r419 r420 r421 r437 r423 r424).getD false)) && (((decide (r456 + r458 = r460)) && (decide (((D_unit_Weight6 N r419 r420 r421 r436 r423 r424).getD 0) + ((D_unit_Weight6 N r419 r420 r421 r437 r423 r424).getD 0) = (D_unit_Weight6 N r419 r420 r421 r422 r423 r424).getD 0))) && (decide (((D_unit_Moment6 N r419 r420 r421 r436 r423 r424).getD 0) + ((D_unit_Moment6 N r419 r420 r421 r437 r423 r424).getD 0) = (D_unit_Moment6 N r419 r420 r421 r422 r423 r424).getD 0)))) = true → ((D_unit_Overlap N r419 r420 r421 r436 r423 r424 r419 r420 r421 r437 r423 r424).isSome = true)) <|
      gd ((((r462 && ((D_unit_Valid N r419 r420 r421 r437 r423 r424).getD false)) && (((decide (r456 + r458 = r460)) && (decide (((D_unit_Weight6 N r419 r420 r421 r436 r423 r424).getD 0) + ((D_unit_Weight6 N r419 r420 r421 r437 r423 r424).getD 0) = (D_unit_Weight6 N r419 r420 r421 r422 r423 r424).getD 0))) && (decide (((D_unit_Moment6 N r419 r420 r421 r436 r423 r424).getD 0) + ((D_unit_Moment6 N r419 r420 r421 r437 r423 r424).getD 0) = (D_unit_Moment6 N r419 r420 r421 r422 r423 r424).getD 0)))) && (!((D_unit_Overlap N r419 r420 r421 r436 r423 r424 r419 r420 r421 r437 r423 r424).getD false))) = true → ((D_unit_Overlap N r419 r420 r421 r436 r423 r424 r419 r420 r421 r422 r423 r424).isSome = true)) <|
      gd (((((r462 && ((D_unit_Valid N r419 r420 r421 r437 r423 r424).getD false)) && (((decide (r456 + r458 = r460)) && (decide (((D_unit_Weight6 N r419 r420 r421 r436 r423 r424).getD 0) + ((D_unit_Weight6 N r419 r420 r421 r437 r423 r424).getD 0) = (D_unit_Weight6 N r419 r420 r421 r422 r423 r424).getD 0))) && (decide (((D_unit_Moment6 N r419 r420 r421 r436 r423 r424).getD 0) + ((D_unit_Moment6 N r419 r420 r421 r437 r423 r424).getD 0) = (D_unit_Moment6 N r419 r420 r421 r422 r423 r424).getD 0)))) && (!((D_unit_Overlap N r419 r420 r421 r436 r423 r424 r419 r420 r421 r437 r423 r424).getD false))) && ((D_unit_Overlap N r419 r420 r421 r436 r423 r424 r419 r420 r421 r422 r423 r424).getD false)) = true → ((D_unit_Overlap N r419 r420 r421 r422 r423 r424 r419 r420 r421 r437 r423 r424).isSome = true)) <|
      some (((((((r462 && ((D_unit_Valid N r419 r420 r421 r437 r423 r424).getD false)) && (((decide (r456 + r458 = r460)) && (decide (((D_unit_Weight6 N r419 r420 r421 r436 r423 r424).getD 0) + ((D_unit_Weight6 N r419 r420 r421 r437 r423 r424).getD 0) = (D_unit_Weight6 N r419 r420 r421 r422 r423 r424).getD 0))) && (decide (((D_unit_Moment6 N r419 r420 r421 r436 r423 r424).getD 0) + ((D_unit_Moment6 N r419 r420 r421 r437 r423 r424).getD 0) = (D_unit_Moment6 N r419 r420 r421 r422 r423 r424).getD 0)))) && (!((D_unit_Overlap N r419 r420 r421 r436 r423 r424 r419 r420 r421 r437 r423 r424).getD false))) && ((D_unit_Overlap N r419 r420 r421 r436 r423 r424 r419 r420 r421 r422 r423 r424).getD false)) && ((D_unit_Overlap N r419 r420 r421 r422 r423 r424 r419 r420 r421 r437 r423 r424).getD false)) && r448) && (decide (r440 = r419) && (decide (r441 = r419) && (decide (r442 = x450) && (decide (r443 = x451) && (decide (r444 = x453) && (decide (r445 = x454) && (decide (r446 = r423) && decide (r447 = r424)))))))))))

def T8 (N : Nat) : List (Nat × Spec) := [(9, s9 N), (10, s10 N), (13, s13 N), (25, s25 N), (16, s16 N), (18, s18 N), (11, s11 N), (12, s12 N), (23, s23 N), (19, s19 N)]
theorem T8_ok (N : Nat) : TabOK Tryd.prog (tabOf (T8 N)) := tab_cons (fok9 N) (tab_cons (fok10 N) (tab_cons (fok13 N) (tab_cons (fok25 N) (tab_cons (fok16 N) (tab_cons (fok18 N) (tab_cons (fok11 N) (tab_cons (fok12 N) (tab_cons (fok23 N) (tab_cons (fok19 N) (tab_nil))))))))))

section
attribute [local go_sem] T8 s9 s10 s13 s25 s16 s18 s11 s12 s23 s19 e_ii de_ii rb_ii d_ii GT_len rowAt_zero rowAt_succ List.set_cons_succ List.isEmpty_map List.map_append List.map_eq_nil_iff ne_eq List.length_replicate takeMap dropMap List.length_set Option.isSome_some
theorem D_putloglaw08_UnitCuts_ok (N : Nat) (x408 : List (Int × Int)) (y409 : List (Int × Int)) (how410 : Int) (p411 : Int) (p412 : Int) (p413 : Int) (p414 : Int) (i415 : Int) (k416 : Int) (r : Bool) (h : D_putloglaw08_UnitCuts N x408 y409 how410 p411 p412 p413 p414 i415 k416 = some r) : PCall Tryd.prog 8 [.sl 2 false (x408.map e_ii) [.i 0, .i 0], .sl 2 false (y409.map e_ii) [.i 0, .i 0], .i how410, .agg [.i p411, .i p412, .i p413, .i p414], .i i415, .i k416] (.b r) := by
  refine pcall_fn (T8_ok N) _ Tryd.func8 ok8 nt8 (by simp) fun _ => ?_
  have hS := T8_ok N
  have F := f0
  unfold ac8 rv8
  unfold D_putloglaw08_UnitCuts at h
  try simp only [gd_some, Option.bind_eq_some_iff] at h
  obtain ⟨r417, hr417, h⟩ := h
  replace F := fc hr417 F
  refine go hS F ?_
  refine cb F (!r417) (fun hc1 => ?_) (fun hc1 => ?_)
  · replace h := cond_t hc1 h
    obtain rfl := Option.some.inj h
    refine go hS F ?_
    exact fin F
  · replace h := cond_f hc1 h
    try simp only [gd_some, Option.bind_eq_some_iff] at h
    obtain ⟨⟨⟨r419, r420, r421, r422, r423, r424⟩, ⟨r425, r426, r427, r428, r429, r430⟩⟩, hr430, h⟩ := h
    replace F := fc hr430 F
    try simp only [gd_some, Option.bind_eq_some_iff] at h
    obtain ⟨r432, hr432, r434, hr434, ⟨r436, r437, r438⟩, hr438, h⟩ := h
    replace F := fc hr438 (fc hr434 (fc hr432 F))
    refine go hS F ?_
    refine cb F (decide (r438 ≠ 0)) (fun hc2 => ?_) (fun hc2 => ?_)
    · replace h := cond_t hc2 h
      try simp only [gd_some, Option.bind_eq_some_iff] at h
      obtain ⟨hv3, hv4, hv5, h⟩ := h
      simp only [I64] at hv3
      simp only [I64] at hv4
      simp only [I64] at hv5
      obtain rfl := Option.some.inj h
      refine go hS F ?_
      exact fin F
    · replace h := cond_f hc2 h
      try simp only [gd_some, Option.bind_eq_some_iff] at h
      obtain ⟨⟨⟨r440, r441, ⟨⟨r442, r443⟩, ⟨r444, r445⟩⟩, r446, r447⟩, r448⟩, hr448, h⟩ := h
      replace F := fc hr448 F
      try simp only [gd_some, Option.bind_eq_some_iff] at h
      obtain ⟨⟨x450, x451⟩, hn451, h⟩ := h
      have hx451 : r422.getD r434.toNat (0, 0) = (x450, x451) := ixs hn451 _
      have hb451 := (nth_some hn451).1
      replace F := fc hx451 F
      try simp only [gd_some, Option.bind_eq_some_iff] at h
      obtain ⟨⟨x453, x454⟩, hn454, h⟩ := h
      have hx454 : r422.getD r432.toNat (0, 0) = (x453, x454) := ixs hn454 _
      have hb454 := (nth_some hn454).1
      replace F := fc hx454 F
      try simp only [gd_some, Option.bind_eq_some_iff] at h
      obtain ⟨r456, hr456, r458, hr458, hv6, r460, hr460, hv7, hv8, hv9, hv10, hv11, hv12, hv13, hv14, r462, hr462, hv15, hv16, hv17, hv18, h⟩ := h
      simp only [I64] at hv6
      simp only [I64] at hv9
      simp only [I64] at hv13
      replace F := fc hr462 (fc hr460 (fc hr458 (fc hr456 F)))
      obtain rfl := Option.some.inj h
      refine go hS F ?_
      exact fin F
end

end Go.Proofs.YtdabfcbelkjmgaaDoor.Am
