import Derived.Test.YtojciffnkbfbhaaD6
import Derived.Test.YtojciffnkbfbhaaD9
import Derived.Test.YtojciffnkbfbhaaP4
import Derived.Test.YtojciffnkbfbhaaA12
namespace Go.Proofs.Ytojciffnkbfbhaa.Am
open Go
attribute [local irreducible] awp seqK blkK backK endK inlK restK rngK asgK itK
set_option maxRecDepth 100000
set_option maxHeartbeats 8000000
set_option linter.unusedSimpArgs false
set_option linter.unusedVariables false
/-! putlog/plane.Cut -/
def D_plane_Cut (N : Nat) (l1438 : List (Int × Int)) (i1439 : Int) (k1440 : Int) : Option ((List (Int × Int)) × (List (Int × Int)) × Int) :=
  (D_plane_Valid N l1438).bind fun r1441 =>
  bif ((!r1441) || (decide (min i1439 k1440 < 0))) || (decide ((l1438.length : Int) ≤ max i1439 k1440)) then (
    some ([], [], 70))
  else (
    bif decide (i1439 ≤ k1440) then (
      gd (I64 (k1440 + 1)) <|
      gd (0 ≤ i1439 ∧ i1439 ≤ k1440 + 1 ∧ k1440 + 1 ≤ (l1438.length : Int)) <|
      gd ((l1438.drop i1439.toNat).take ((k1440 + 1).toNat - i1439.toNat) ≠ []) <|
      gd ((((l1438.drop i1439.toNat).take ((k1440 + 1).toNat - i1439.toNat)).length) * 16 ≤ 140737488355328) <|
      bif decide (k1440 ≤ i1439) then (
        gd (I64 (i1439 + 1)) <|
        gd (0 ≤ k1440 ∧ k1440 ≤ i1439 + 1 ∧ i1439 + 1 ≤ (l1438.length : Int)) <|
        gd ((l1438.drop k1440.toNat).take ((i1439 + 1).toNat - k1440.toNat) ≠ []) <|
        gd ((((l1438.drop k1440.toNat).take ((i1439 + 1).toNat - k1440.toNat)).length) * 16 ≤ 140737488355328) <|
        bif decide (min (((l1438.drop i1439.toNat).take ((k1440 + 1).toNat - i1439.toNat)).length : Int) (((l1438.drop k1440.toNat).take ((i1439 + 1).toNat - k1440.toNat)).length : Int) < 3) then (
          some ([], [], 70))
        else (
          some ((l1438.drop i1439.toNat).take ((k1440 + 1).toNat - i1439.toNat), (l1438.drop k1440.toNat).take ((i1439 + 1).toNat - k1440.toNat), 0)))
      else (
        gd (0 ≤ k1440 ∧ k1440 ≤ (l1438.length : Int)) <|
        gd (I64 (i1439 + 1)) <|
        gd (0 ≤ 0 ∧ 0 ≤ i1439 + 1 ∧ i1439 + 1 ≤ (l1438.length : Int)) <|
        (D_slices_Concat_api_Place_api_Place N [l1438.drop k1440.toNat, l1438.take ((i1439 + 1).toNat - 0)]).bind fun r1443 =>
        bif decide (min (((l1438.drop i1439.toNat).take ((k1440 + 1).toNat - i1439.toNat)).length : Int) (r1443.length : Int) < 3) then (
          some ([], [], 70))
        else (
          some ((l1438.drop i1439.toNat).take ((k1440 + 1).toNat - i1439.toNat), r1443, 0))))
    else (
      gd (0 ≤ i1439 ∧ i1439 ≤ (l1438.length : Int)) <|
      gd (I64 (k1440 + 1)) <|
      gd (0 ≤ 0 ∧ 0 ≤ k1440 + 1 ∧ k1440 + 1 ≤ (l1438.length : Int)) <|
      (D_slices_Concat_api_Place_api_Place N [l1438.drop i1439.toNat, l1438.take ((k1440 + 1).toNat - 0)]).bind fun r1445 =>
      bif decide (k1440 ≤ i1439) then (
        gd (I64 (i1439 + 1)) <|
        gd (0 ≤ k1440 ∧ k1440 ≤ i1439 + 1 ∧ i1439 + 1 ≤ (l1438.length : Int)) <|
        gd ((l1438.drop k1440.toNat).take ((i1439 + 1).toNat - k1440.toNat) ≠ []) <|
        gd ((((l1438.drop k1440.toNat).take ((i1439 + 1).toNat - k1440.toNat)).length) * 16 ≤ 140737488355328) <|
        bif decide (min (r1445.length : Int) (((l1438.drop k1440.toNat).take ((i1439 + 1).toNat - k1440.toNat)).length : Int) < 3) then (
          some ([], [], 70))
        else (
          some (r1445, (l1438.drop k1440.toNat).take ((i1439 + 1).toNat - k1440.toNat), 0)))
      else (
        gd (0 ≤ k1440 ∧ k1440 ≤ (l1438.length : Int)) <|
        gd (I64 (i1439 + 1)) <|
        gd (0 ≤ 0 ∧ 0 ≤ i1439 + 1 ∧ i1439 + 1 ≤ (l1438.length : Int)) <|
        (D_slices_Concat_api_Place_api_Place N [l1438.drop k1440.toNat, l1438.take ((i1439 + 1).toNat - 0)]).bind fun r1447 =>
        bif decide (min (r1445.length : Int) (r1447.length : Int) < 3) then (
          some ([], [], 70))
        else (
          some (r1445, r1447, 0)))))

def T22 (N : Nat) : List (Nat × Spec) := [(19, s19 N), (54, s54 N)]
theorem T22_ok (N : Nat) : TabOK Try.prog (tabOf (T22 N)) := tab_cons (fok19 N) (tab_cons (fok54 N) (tab_nil))

section
attribute [local go_sem] T22 s19 s54 e_Sii de_Sii d_Sii e_ii de_ii rb_ii d_ii rowAt_zero rowAt_succ List.set_cons_succ List.isEmpty_map List.map_append List.map_eq_nil_iff ne_eq List.length_replicate takeMap dropMap List.length_set Option.isSome_some
theorem D_plane_Cut_ok (N : Nat) (l1438 : List (Int × Int)) (i1439 : Int) (k1440 : Int) (r : (List (Int × Int)) × (List (Int × Int)) × Int) (h : D_plane_Cut N l1438 i1439 k1440 = some r) : PCall Try.prog 22 [.sl 2 false (l1438.map e_ii) [.i 0, .i 0], .i i1439, .i k1440] (.tup [.sl 2 false (r.1.map e_ii) [.i 0, .i 0], .sl 2 false (r.2.1.map e_ii) [.i 0, .i 0], .i r.2.2]) := by
  refine pcall_fn (T22_ok N) _ Try.func22 ok22 nt22 (by simp) fun _ => ?_
  have hS := T22_ok N
  have F := f0
  unfold ac22 rv22
  unfold D_plane_Cut at h
  try simp only [gd_some, Option.bind_eq_some_iff] at h
  obtain ⟨r1441, hr1441, h⟩ := h
  replace F := fc hr1441 F
  refine go hS F ?_
  refine cb F (((!r1441) || (decide (min i1439 k1440 < 0))) || (decide ((l1438.length : Int) ≤ max i1439 k1440))) (fun hc1 => ?_) (fun hc1 => ?_)
  · replace h := cond_t hc1 h
    obtain rfl := Option.some.inj h
    refine go hS F ?_
    exact fin F
  · replace h := cond_f hc1 h
    refine go hS F ?_
    refine awp_inlF2 hS 3 7 (by decide) Try.func52 ok52 nt52 of52 Try.func52 ok52 nt52 of52 rfl rfl (by simp only [go_sem, seval, F] <;> eq_refl) (by simp only [go_sem, seval, F] <;> eq_refl) (by simp only [go_sem, seval, F] <;> eq_refl) ?_ rfl (by simp only [go_sem, seval, F] <;> eq_refl) (by simp) fun hb => ?_
    · exact goc hS F
    unfold ac52 rv52
    refine go hS F ?_
    refine cb F (decide (i1439 ≤ k1440)) (fun hc2 => ?_) (fun hc2 => ?_)
    · replace h := cond_t hc2 h
      try simp only [gd_some, Option.bind_eq_some_iff] at h
      obtain ⟨hv3, hv4, h⟩ := h
      simp only [I64] at hv3
      refine go hS F ?_
      refine awp_inlF hS 5 Try.func53 ok53 nt53 of53 rfl (by simp only [go_sem, seval, F] <;> eq_refl) (by simp only [go_sem, seval, F] <;> eq_refl) ?_ rfl (by simp only [go_sem, seval, F] <;> eq_refl) (by simp) fun hb => ?_
      · exact goc hS F
      unfold ac53 rv53
      try simp only [gd_some, Option.bind_eq_some_iff] at h
      obtain ⟨hv5, h⟩ := h
      refine go hS F ?_
      refine cf F ?_
      try simp only [gd_some, Option.bind_eq_some_iff] at h
      obtain ⟨hv6, h⟩ := h
      refine go hS F ?_
      first | refine inlC_r (by simp only [go_sem, seval, F] <;> eq_refl) (by simp only [go_sem, seval, F] <;> eq_refl) ?_ ?_ rfl (by simp only [go_sem, seval, F] <;> eq_refl) (by simp) fun hb => ?_ | refine inlC_n (by simp only [go_sem, seval, F] <;> eq_refl) (by simp only [go_sem, seval, F] <;> eq_refl) ?_ ?_ rfl (by simp only [go_sem, seval, F] <;> eq_refl) (by simp) fun hb => ?_
      · exact goc hS F
      · exact goc hS F
      try unfold ac52 rv52
      refine go hS F ?_
      refine cb F (decide (k1440 ≤ i1439)) (fun hc7 => ?_) (fun hc7 => ?_)
      · replace h := cond_t hc7 h
        try simp only [gd_some, Option.bind_eq_some_iff] at h
        obtain ⟨hv8, hv9, h⟩ := h
        simp only [I64] at hv8
        refine go hS F ?_
        refine awp_inlF hS 5 Try.func53 ok53 nt53 of53 rfl (by simp only [go_sem, seval, F] <;> eq_refl) (by simp only [go_sem, seval, F] <;> eq_refl) ?_ rfl (by simp only [go_sem, seval, F] <;> eq_refl) (by simp) fun hb => ?_
        · exact goc hS F
        unfold ac53 rv53
        try simp only [gd_some, Option.bind_eq_some_iff] at h
        obtain ⟨hv10, h⟩ := h
        refine go hS F ?_
        refine cf F ?_
        try simp only [gd_some, Option.bind_eq_some_iff] at h
        obtain ⟨hv11, h⟩ := h
        refine go hS F ?_
        refine cb F (decide (min (((l1438.drop i1439.toNat).take ((k1440 + 1).toNat - i1439.toNat)).length : Int) (((l1438.drop k1440.toNat).take ((i1439 + 1).toNat - k1440.toNat)).length : Int) < 3)) (fun hc12 => ?_) (fun hc12 => ?_)
        · replace h := cond_t hc12 h
          obtain rfl := Option.some.inj h
          refine go hS F ?_
          exact fin F
        · replace h := cond_f hc12 h
          obtain rfl := Option.some.inj h
          refine go hS F ?_
          exact fin F
      · replace h := cond_f hc7 h
        try simp only [gd_some, Option.bind_eq_some_iff] at h
        obtain ⟨hv13, hv14, hv15, r1443, hr1443, h⟩ := h
        simp only [I64] at hv14
        replace F := fc hr1443 F
        refine go hS F ?_
        refine cb F (decide (min (((l1438.drop i1439.toNat).take ((k1440 + 1).toNat - i1439.toNat)).length : Int) (r1443.length : Int) < 3)) (fun hc16 => ?_) (fun hc16 => ?_)
        · replace h := cond_t hc16 h
          obtain rfl := Option.some.inj h
          refine go hS F ?_
          exact fin F
        · replace h := cond_f hc16 h
          obtain rfl := Option.some.inj h
          refine go hS F ?_
          exact fin F
    · replace h := cond_f hc2 h
      try simp only [gd_some, Option.bind_eq_some_iff] at h
      obtain ⟨hv17, hv18, hv19, r1445, hr1445, h⟩ := h
      simp only [I64] at hv18
      replace F := fc hr1445 F
      refine go hS F ?_
      first | refine inlC_r (by simp only [go_sem, seval, F] <;> eq_refl) (by simp only [go_sem, seval, F] <;> eq_refl) ?_ ?_ rfl (by simp only [go_sem, seval, F] <;> eq_refl) (by simp) fun hb => ?_ | refine inlC_n (by simp only [go_sem, seval, F] <;> eq_refl) (by simp only [go_sem, seval, F] <;> eq_refl) ?_ ?_ rfl (by simp only [go_sem, seval, F] <;> eq_refl) (by simp) fun hb => ?_
      · exact goc hS F
      · exact goc hS F
      try unfold ac52 rv52
      refine go hS F ?_
      refine cb F (decide (k1440 ≤ i1439)) (fun hc20 => ?_) (fun hc20 => ?_)
      · replace h := cond_t hc20 h
        try simp only [gd_some, Option.bind_eq_some_iff] at h
        obtain ⟨hv21, hv22, h⟩ := h
        simp only [I64] at hv21
        refine go hS F ?_
        refine awp_inlF hS 5 Try.func53 ok53 nt53 of53 rfl (by simp only [go_sem, seval, F] <;> eq_refl) (by simp only [go_sem, seval, F] <;> eq_refl) ?_ rfl (by simp only [go_sem, seval, F] <;> eq_refl) (by simp) fun hb => ?_
        · exact goc hS F
        unfold ac53 rv53
        try simp only [gd_some, Option.bind_eq_some_iff] at h
        obtain ⟨hv23, h⟩ := h
        refine go hS F ?_
        refine cf F ?_
        try simp only [gd_some, Option.bind_eq_some_iff] at h
        obtain ⟨hv24, h⟩ := h
        refine go hS F ?_
        refine cb F (decide (min (r1445.length : Int) (((l1438.drop k1440.toNat).take ((i1439 + 1).toNat - k1440.toNat)).length : Int) < 3)) (fun hc25 => ?_) (fun hc25 => ?_)
        · replace h := cond_t hc25 h
          obtain rfl := Option.some.inj h
          refine go hS F ?_
          exact fin F
        · replace h := cond_f hc25 h
          obtain rfl := Option.some.inj h
          refine go hS F ?_
          exact fin F
      · replace h := cond_f hc20 h
        try simp only [gd_some, Option.bind_eq_some_iff] at h
        obtain ⟨hv26, hv27, hv28, r1447, hr1447, h⟩ := h
        simp only [I64] at hv27
        replace F := fc hr1447 F
        refine go hS F ?_
        refine cb F (decide (min (r1445.length : Int) (r1447.length : Int) < 3)) (fun hc29 => ?_) (fun hc29 => ?_)
        · replace h := cond_t hc29 h
          obtain rfl := Option.some.inj h
          refine go hS F ?_
          exact fin F
        · replace h := cond_f hc29 h
          obtain rfl := Option.some.inj h
          refine go hS F ?_
          exact fin F
end

def s22 (N : Nat) : Spec
  | [.sl yl1438 _ l1438 _, .v (.int .i64 i1439), .v (.int .i64 k1440)] => some (((yl1438 = 2 ∨ l1438 = []) ∧ l1438 = (l1438.map d_ii).map e_ii) ∧ (D_plane_Cut N (l1438.map d_ii) i1439 k1440).isSome = true, .tup [.sl 2 false ((((D_plane_Cut N (l1438.map d_ii) i1439 k1440).getD ([], [], 0)).1).map e_ii) [.i 0, .i 0], .sl 2 false ((((D_plane_Cut N (l1438.map d_ii) i1439 k1440).getD ([], [], 0)).2.1).map e_ii) [.i 0, .i 0], .i (((D_plane_Cut N (l1438.map d_ii) i1439 k1440).getD ([], [], 0)).2.2)])
  | _ => none
theorem fok22 (N : Nat) : FOK Try.prog 22 (s22 N) := ⟨of22, by
  intro args vc r h hv
  unfold s22 at h
  split at h
  · cases h
    obtain ⟨⟨hy0, hr0⟩, hs⟩ := hv
    obtain ⟨r, hr⟩ := Option.isSome_iff_exists.1 hs
    have hk := D_plane_Cut_ok N _ _ _ r hr
    simp only [hr, Option.getD_some]
    refine PCall.arg ?_ hk
    simp only [wkL, wk, and_true, true_and, Bool.false_eq_true, false_implies, implies_true]
    repeat' (first | exact True.intro | assumption | apply And.intro)
  · simp at h⟩
end Go.Proofs.Ytojciffnkbfbhaa.Am
