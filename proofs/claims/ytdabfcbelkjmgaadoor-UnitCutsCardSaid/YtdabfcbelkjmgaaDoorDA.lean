import Derived.Test.YtdabfcbelkjmgaaDoorD6
import Derived.Test.YtdabfcbelkjmgaaDoorD9
import Derived.Test.YtdabfcbelkjmgaaDoorP4
import Derived.Test.YtdabfcbelkjmgaaDoorA12
namespace Go.Proofs.YtdabfcbelkjmgaaDoor.Am
open Go
attribute [local irreducible] awp seqK blkK backK endK inlK restK rngK asgK itK
set_option maxRecDepth 100000
set_option maxHeartbeats 8000000
set_option linter.unusedSimpArgs false
set_option linter.unusedVariables false
/-! putlog/plane.Cut -/
def D_plane_Cut (N : Nat) (l189 : List (Int × Int)) (i190 : Int) (k191 : Int) : Option ((List (Int × Int)) × (List (Int × Int)) × Int) :=
  (D_plane_Valid N l189).bind fun r192 =>
  bif ((!r192) || (decide (min i190 k191 < 0))) || (decide ((l189.length : Int) ≤ max i190 k191)) then (
    some ([], [], 70))
  else (
    bif decide (i190 ≤ k191) then (
      gd (I64 (k191 + 1)) <|
      gd (0 ≤ i190 ∧ i190 ≤ k191 + 1 ∧ k191 + 1 ≤ (l189.length : Int)) <|
      gd ((l189.drop i190.toNat).take ((k191 + 1).toNat - i190.toNat) ≠ []) <|
      gd ((((l189.drop i190.toNat).take ((k191 + 1).toNat - i190.toNat)).length) * 16 ≤ 140737488355328) <|
      bif decide (k191 ≤ i190) then (
        gd (I64 (i190 + 1)) <|
        gd (0 ≤ k191 ∧ k191 ≤ i190 + 1 ∧ i190 + 1 ≤ (l189.length : Int)) <|
        gd ((l189.drop k191.toNat).take ((i190 + 1).toNat - k191.toNat) ≠ []) <|
        gd ((((l189.drop k191.toNat).take ((i190 + 1).toNat - k191.toNat)).length) * 16 ≤ 140737488355328) <|
        bif decide (min (((l189.drop i190.toNat).take ((k191 + 1).toNat - i190.toNat)).length : Int) (((l189.drop k191.toNat).take ((i190 + 1).toNat - k191.toNat)).length : Int) < 3) then (
          some ([], [], 70))
        else (
          some ((l189.drop i190.toNat).take ((k191 + 1).toNat - i190.toNat), (l189.drop k191.toNat).take ((i190 + 1).toNat - k191.toNat), 0)))
      else (
        gd (0 ≤ k191 ∧ k191 ≤ (l189.length : Int)) <|
        gd (I64 (i190 + 1)) <|
        gd (0 ≤ 0 ∧ 0 ≤ i190 + 1 ∧ i190 + 1 ≤ (l189.length : Int)) <|
        (D_slices_Concat_api_Place_api_Place N [l189.drop k191.toNat, l189.take ((i190 + 1).toNat - 0)]).bind fun r194 =>
        bif decide (min (((l189.drop i190.toNat).take ((k191 + 1).toNat - i190.toNat)).length : Int) (r194.length : Int) < 3) then (
          some ([], [], 70))
        else (
          some ((l189.drop i190.toNat).take ((k191 + 1).toNat - i190.toNat), r194, 0))))
    else (
      gd (0 ≤ i190 ∧ i190 ≤ (l189.length : Int)) <|
      gd (I64 (k191 + 1)) <|
      gd (0 ≤ 0 ∧ 0 ≤ k191 + 1 ∧ k191 + 1 ≤ (l189.length : Int)) <|
      (D_slices_Concat_api_Place_api_Place N [l189.drop i190.toNat, l189.take ((k191 + 1).toNat - 0)]).bind fun r196 =>
      bif decide (k191 ≤ i190) then (
        gd (I64 (i190 + 1)) <|
        gd (0 ≤ k191 ∧ k191 ≤ i190 + 1 ∧ i190 + 1 ≤ (l189.length : Int)) <|
        gd ((l189.drop k191.toNat).take ((i190 + 1).toNat - k191.toNat) ≠ []) <|
        gd ((((l189.drop k191.toNat).take ((i190 + 1).toNat - k191.toNat)).length) * 16 ≤ 140737488355328) <|
        bif decide (min (r196.length : Int) (((l189.drop k191.toNat).take ((i190 + 1).toNat - k191.toNat)).length : Int) < 3) then (
          some ([], [], 70))
        else (
          some (r196, (l189.drop k191.toNat).take ((i190 + 1).toNat - k191.toNat), 0)))
      else (
        gd (0 ≤ k191 ∧ k191 ≤ (l189.length : Int)) <|
        gd (I64 (i190 + 1)) <|
        gd (0 ≤ 0 ∧ 0 ≤ i190 + 1 ∧ i190 + 1 ≤ (l189.length : Int)) <|
        (D_slices_Concat_api_Place_api_Place N [l189.drop k191.toNat, l189.take ((i190 + 1).toNat - 0)]).bind fun r198 =>
        bif decide (min (r196.length : Int) (r198.length : Int) < 3) then (
          some ([], [], 70))
        else (
          some (r196, r198, 0)))))

def T25 (N : Nat) : List (Nat × Spec) := [(34, s34 N), (49, s49 N)]
theorem T25_ok (N : Nat) : TabOK Tryd.prog (tabOf (T25 N)) := tab_cons (fok34 N) (tab_cons (fok49 N) (tab_nil))

section
attribute [local go_sem] T25 s34 s49 e_Sii de_Sii d_Sii e_ii de_ii rb_ii d_ii rowAt_zero rowAt_succ List.set_cons_succ List.isEmpty_map List.map_append List.map_eq_nil_iff ne_eq List.length_replicate takeMap dropMap List.length_set Option.isSome_some
theorem D_plane_Cut_ok (N : Nat) (l189 : List (Int × Int)) (i190 : Int) (k191 : Int) (r : (List (Int × Int)) × (List (Int × Int)) × Int) (h : D_plane_Cut N l189 i190 k191 = some r) : PCall Tryd.prog 25 [.sl 2 false (l189.map e_ii) [.i 0, .i 0], .i i190, .i k191] (.tup [.sl 2 false (r.1.map e_ii) [.i 0, .i 0], .sl 2 false (r.2.1.map e_ii) [.i 0, .i 0], .i r.2.2]) := by
  refine pcall_fn (T25_ok N) _ Tryd.func25 ok25 nt25 (by simp) fun _ => ?_
  have hS := T25_ok N
  have F := f0
  unfold ac25 rv25
  unfold D_plane_Cut at h
  try simp only [gd_some, Option.bind_eq_some_iff] at h
  obtain ⟨r192, hr192, h⟩ := h
  replace F := fc hr192 F
  refine go hS F ?_
  refine cb F (((!r192) || (decide (min i190 k191 < 0))) || (decide ((l189.length : Int) ≤ max i190 k191))) (fun hc1 => ?_) (fun hc1 => ?_)
  · replace h := cond_t hc1 h
    obtain rfl := Option.some.inj h
    refine go hS F ?_
    exact fin F
  · replace h := cond_f hc1 h
    refine go hS F ?_
    refine awp_inlF2 hS 3 7 (by decide) Tryd.func48 ok48 nt48 of48 Tryd.func48 ok48 nt48 of48 rfl rfl (by simp only [go_sem, seval, F] <;> eq_refl) (by simp only [go_sem, seval, F] <;> eq_refl) (by simp only [go_sem, seval, F] <;> eq_refl) ?_ rfl (by simp only [go_sem, seval, F] <;> eq_refl) (by simp) fun hb => ?_
    · exact goc hS F
    unfold ac48 rv48
    refine go hS F ?_
    refine cb F (decide (i190 ≤ k191)) (fun hc2 => ?_) (fun hc2 => ?_)
    · replace h := cond_t hc2 h
      try simp only [gd_some, Option.bind_eq_some_iff] at h
      obtain ⟨hv3, hv4, h⟩ := h
      simp only [I64] at hv3
      refine go hS F ?_
      refine awp_inlF hS 5 Tryd.func35 ok35 nt35 of35 rfl (by simp only [go_sem, seval, F] <;> eq_refl) (by simp only [go_sem, seval, F] <;> eq_refl) ?_ rfl (by simp only [go_sem, seval, F] <;> eq_refl) (by simp) fun hb => ?_
      · exact goc hS F
      unfold ac35 rv35
      try simp only [gd_some, Option.bind_eq_some_iff] at h
      obtain ⟨hv5, h⟩ := h
      refine go hS F ?_
      refine cf F ?_
      try simp only [gd_some, Option.bind_eq_some_iff] at h
      obtain ⟨hv6, h⟩ := h
      refine go hS F ?_
      first | refine inlC_r (by simp only [go_sem, seval, F] <;> eq_refl) (by simp only [go_sem, seval, F] <;> eq_refl) ?_ ?_ rfl (by simp only [go_sem, seval, F] <;> eq_refl) (by simp) fun hb => ?_ | refine inlC_n (by simp only [go_sem, seval, F] <;> eq_refl) (by simp only [go_sem, seval, F] <;> eq_refl) ?_ ?_ rfl (by simp only [go_sem, seval, F] <;> eq_refl) (by simp) fun hb => ?_
      · exact goc hS F
      · exact goc hS F
      try unfold ac48 rv48
      refine go hS F ?_
      refine cb F (decide (k191 ≤ i190)) (fun hc7 => ?_) (fun hc7 => ?_)
      · replace h := cond_t hc7 h
        try simp only [gd_some, Option.bind_eq_some_iff] at h
        obtain ⟨hv8, hv9, h⟩ := h
        simp only [I64] at hv8
        refine go hS F ?_
        refine awp_inlF hS 5 Tryd.func35 ok35 nt35 of35 rfl (by simp only [go_sem, seval, F] <;> eq_refl) (by simp only [go_sem, seval, F] <;> eq_refl) ?_ rfl (by simp only [go_sem, seval, F] <;> eq_refl) (by simp) fun hb => ?_
        · exact goc hS F
        unfold ac35 rv35
        try simp only [gd_some, Option.bind_eq_some_iff] at h
        obtain ⟨hv10, h⟩ := h
        refine go hS F ?_
        refine cf F ?_
        try simp only [gd_some, Option.bind_eq_some_iff] at h
        obtain ⟨hv11, h⟩ := h
        refine go hS F ?_
        refine cb F (decide (min (((l189.drop i190.toNat).take ((k191 + 1).toNat - i190.toNat)).length : Int) (((l189.drop k191.toNat).take ((i190 + 1).toNat - k191.toNat)).length : Int) < 3)) (fun hc12 => ?_) (fun hc12 => ?_)
        · replace h := cond_t hc12 h
          obtain rfl := Option.some.inj h
          refine go hS F ?_
          exact fin F
        · replace h := cond_f hc12 h
          obtain rfl := Option.some.inj h
          refine go hS F ?_
          exact fin F
      · replace h := cond_f hc7 h
        try simp only [gd_some, Option.bind_eq_some_iff] at h
        obtain ⟨hv13, hv14, hv15, r194, hr194, h⟩ := h
        simp only [I64] at hv14
        replace F := fc hr194 F
        refine go hS F ?_
        refine cb F (decide (min (((l189.drop i190.toNat).take ((k191 + 1).toNat - i190.toNat)).length : Int) (r194.length : Int) < 3)) (fun hc16 => ?_) (fun hc16 => ?_)
        · replace h := cond_t hc16 h
          obtain rfl := Option.some.inj h
          refine go hS F ?_
          exact fin F
        · replace h := cond_f hc16 h
          obtain rfl := Option.some.inj h
          refine go hS F ?_
          exact fin F
    · replace h := cond_f hc2 h
      try simp only [gd_some, Option.bind_eq_some_iff] at h
      obtain ⟨hv17, hv18, hv19, r196, hr196, h⟩ := h
      simp only [I64] at hv18
      replace F := fc hr196 F
      refine go hS F ?_
      first | refine inlC_r (by simp only [go_sem, seval, F] <;> eq_refl) (by simp only [go_sem, seval, F] <;> eq_refl) ?_ ?_ rfl (by simp only [go_sem, seval, F] <;> eq_refl) (by simp) fun hb => ?_ | refine inlC_n (by simp only [go_sem, seval, F] <;> eq_refl) (by simp only [go_sem, seval, F] <;> eq_refl) ?_ ?_ rfl (by simp only [go_sem, seval, F] <;> eq_refl) (by simp) fun hb => ?_
      · exact goc hS F
      · exact goc hS F
      try unfold ac48 rv48
      refine go hS F ?_
      refine cb F (decide (k191 ≤ i190)) (fun hc20 => ?_) (fun hc20 => ?_)
      · replace h := cond_t hc20 h
        try simp only [gd_some, Option.bind_eq_some_iff] at h
        obtain ⟨hv21, hv22, h⟩ := h
        simp only [I64] at hv21
        refine go hS F ?_
        refine awp_inlF hS 5 Tryd.func35 ok35 nt35 of35 rfl (by simp only [go_sem, seval, F] <;> eq_refl) (by simp only [go_sem, seval, F] <;> eq_refl) ?_ rfl (by simp only [go_sem, seval, F] <;> eq_refl) (by simp) fun hb => ?_
        · exact goc hS F
        unfold ac35 rv35
        try simp only [gd_some, Option.bind_eq_some_iff] at h
        obtain ⟨hv23, h⟩ := h
        refine go hS F ?_
        refine cf F ?_
        try simp only [gd_some, Option.bind_eq_some_iff] at h
        obtain ⟨hv24, h⟩ := h
        refine go hS F ?_
        refine cb F (decide (min (r196.length : Int) (((l189.drop k191.toNat).take ((i190 + 1).toNat - k191.toNat)).length : Int) < 3)) (fun hc25 => ?_) (fun hc25 => ?_)
        · replace h := cond_t hc25 h
          obtain rfl := Option.some.inj h
          refine go hS F ?_
          exact fin F
        · replace h := cond_f hc25 h
          obtain rfl := Option.some.inj h
          refine go hS F ?_
          exact fin F
      · replace h := cond_f hc20 h
        try simp only [gd_some, Option.bind_eq_some_iff] at h
        obtain ⟨hv26, hv27, hv28, r198, hr198, h⟩ := h
        simp only [I64] at hv27
        replace F := fc hr198 F
        refine go hS F ?_
        refine cb F (decide (min (r196.length : Int) (r198.length : Int) < 3)) (fun hc29 => ?_) (fun hc29 => ?_)
        · replace h := cond_t hc29 h
          obtain rfl := Option.some.inj h
          refine go hS F ?_
          exact fin F
        · replace h := cond_f hc29 h
          obtain rfl := Option.some.inj h
          refine go hS F ?_
          exact fin F
end

def s25 (N : Nat) : Spec
  | [.sl yl189 _ l189 _, .v (.int .i64 i190), .v (.int .i64 k191)] => some (((yl189 = 2 ∨ l189 = []) ∧ l189 = (l189.map d_ii).map e_ii) ∧ (D_plane_Cut N (l189.map d_ii) i190 k191).isSome = true, .tup [.sl 2 false ((((D_plane_Cut N (l189.map d_ii) i190 k191).getD ([], [], 0)).1).map e_ii) [.i 0, .i 0], .sl 2 false ((((D_plane_Cut N (l189.map d_ii) i190 k191).getD ([], [], 0)).2.1).map e_ii) [.i 0, .i 0], .i (((D_plane_Cut N (l189.map d_ii) i190 k191).getD ([], [], 0)).2.2)])
  | _ => none
theorem fok25 (N : Nat) : FOK Tryd.prog 25 (s25 N) := ⟨of25, by
  intro args vc r h hv
  unfold s25 at h
  split at h
  · cases h
    obtain ⟨⟨hy0, hr0⟩, hs⟩ := hv
    obtain ⟨r, hr⟩ := Option.isSome_iff_exists.1 hs
    have hk := D_plane_Cut_ok N _ _ _ r hr
    simp only [hr, Option.getD_some]
    refine PCall.arg ?_ hk
    simp only [wkL, wk, and_true, true_and, Bool.false_eq_true, false_implies, implies_true]
    repeat' (first | exact True.intro | assumption | apply And.intro)
  · simp at h⟩
end Go.Proofs.YtdabfcbelkjmgaaDoor.Am
