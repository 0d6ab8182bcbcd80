import Derived.Test.YtdabfcbelkjmgaaDoorP1
namespace Go.Proofs.YtdabfcbelkjmgaaDoor.Am
open Go
attribute [local irreducible] awp seqK blkK backK endK inlK restK rngK asgK itK
set_option maxRecDepth 100000
set_option maxHeartbeats 8000000
set_option linter.unusedSimpArgs false
set_option linter.unusedVariables false
/-! putlog/plane.side -/
def D_plane_side_L1 (N : Nat) (p540 : Int) (p541 : Int) : List ((Int × Int) × (Int × Int)) → Int → Option Int
  | [], least550 =>
    some least550
  | ((y551, y552), (y553, y554)) :: ys, least550 =>
    (D_plane_turn N y551 y552 y553 y554 p540 p541).bind fun r555 =>
    D_plane_side_L1 N p540 p541 ys (min least550 r555)

def D_plane_side (N : Nat) (l539 : List (Int × Int)) (p540 : Int) (p541 : Int) : Option Int :=
  gd (l539.length ≤ 1000000000) <|
  (D_plane_side_L1 N p540 p541 (edgesL l539) 4611686018427387903).bind fun least560 =>
  (D_cmp_Compare_int N least560 0).bind fun r562 =>
  some r562

def T47 (N : Nat) : List (Nat × Spec) := [(55, sEdges), (56, s56 N), (64, s64 N)]
theorem T47_ok (N : Nat) : TabOK Tryd.prog (tabOf (T47 N)) := tab_cons edges_fok (tab_cons (fok56 N) (tab_cons (fok64 N) (tab_nil)))

section
attribute [local go_sem] T47 sEdges s56 s64 e_ii de_ii rb_ii d_ii rowAt_zero rowAt_succ List.set_cons_succ List.isEmpty_map List.map_append List.map_eq_nil_iff ne_eq List.length_replicate takeMap dropMap List.length_set Option.isSome_some
theorem D_plane_side_ok (N : Nat) (l539 : List (Int × Int)) (p540 : Int) (p541 : Int) (r : Int) (h : D_plane_side N l539 p540 p541 = some r) : PCall Tryd.prog 47 [.sl 2 false (l539.map e_ii) [.i 0, .i 0], .agg [.i p540, .i p541]] (.i r) := by
  refine pcall_fn (T47_ok N) _ Tryd.func47 ok47 nt47 (by simp) fun _ => ?_
  have hS := T47_ok N
  have F := f0
  unfold ac47 rv47
  unfold D_plane_side at h
  try simp only [gd_some, Option.bind_eq_some_iff] at h
  obtain ⟨hv1, h⟩ := h
  try simp only [gd_some, Option.bind_eq_some_iff] at h
  obtain ⟨o561, hL2, h⟩ := h
  refine go hS F ?_
  refine awp_cut (fun z : Int × Nat => ⟨[(5, .box (100, 2) 0)], [(.c (100, 2) 0, .i z.1)], z.2⟩) (fun z => (z.1 : Int) = o561) .n ?_ ?_
  · refine awp_rfun (fun y : Nat × Int × Nat => ([(.c (100, 2) 0, .i y.2.1), (.c (0, 1) 0, .i p540), (.c (0, 1) 1, .i p541)], y.2.2)) (fun y => D_plane_side_L1 N p540 p541 ((edgesL l539).drop y.1) y.2.1 = some o561 ∧ y.1 ≤ (edgesL l539).length) (fun y => y.1) (0, 4611686018427387903, 3) (by simp only [go_sem, seval, F] <;> eq_refl) (edges_it l539 false (by assumption)) of69 ⟨rfl, rfl⟩ (by simp) (by intro a ha; obtain ⟨y, _, rfl⟩ := List.mem_map.1 ha; exact ⟨rfl, rfl⟩) ⟨hL2, Nat.zero_le _⟩ rfl ?_ ?_ ?_
    · exact leF F
    · rintro l ⟨n, least550, c549⟩ ⟨hB3, hle⟩ args ha4
      obtain ⟨⟨⟨y551, y552⟩, ⟨y553, y554⟩⟩, hy5, rfl, hlt⟩ := rd_step ha4
      rw [hy5, D_plane_side_L1] at hB3
      try simp only at hB3
      clear ha4 hy5
      simp only [edA, putps]
      try simp only [gd_some, Option.bind_eq_some_iff] at hB3
      obtain ⟨r555, hr555, hB3⟩ := hB3
      replace F := fc hr555 F
      refine go hS F ?_
      exact rngK_n (n + 1, min least550 r555, c549 + 1 + 1 + 1) ⟨hB3, by omega⟩ rfl (leF F)
    · rintro ⟨n, least550, c549⟩ ⟨hB3, hle⟩ hk
      rw [show n = _ from hk, drop_all, D_plane_side_L1] at hB3
      try simp only at hB3
      refine go hS F ?_
      exact cutK_h (least550, c549) (Option.some.inj hB3) (leF F)
  · rintro ⟨least560, c559⟩ hz6
    subst hz6
    try simp only at h
    try simp only [gd_some, Option.bind_eq_some_iff] at h
    obtain ⟨r562, hr562, h⟩ := h
    replace F := fc hr562 F
    obtain rfl := Option.some.inj h
    refine go hS F ?_
    exact fin F
end

def s47 (N : Nat) : Spec
  | [.sl yl539 _ l539 _, .agg [.v (.int .i64 p540), .v (.int .i64 p541)]] => some (((yl539 = 2 ∨ l539 = []) ∧ l539 = (l539.map d_ii).map e_ii) ∧ (D_plane_side N (l539.map d_ii) p540 p541).isSome = true, .i ((D_plane_side N (l539.map d_ii) p540 p541).getD 0))
  | _ => none
theorem fok47 (N : Nat) : FOK Tryd.prog 47 (s47 N) := ⟨of47, by
  intro args vc r h hv
  unfold s47 at h
  split at h
  · cases h
    obtain ⟨⟨hy0, hr0⟩, hs⟩ := hv
    obtain ⟨r, hr⟩ := Option.isSome_iff_exists.1 hs
    have hk := D_plane_side_ok N _ _ _ r hr
    simp only [hr, Option.getD_some]
    refine PCall.arg ?_ hk
    simp only [wkL, wk, and_true, true_and, Bool.false_eq_true, false_implies, implies_true]
    repeat' (first | exact True.intro | assumption | apply And.intro)
  · simp at h⟩
end Go.Proofs.YtdabfcbelkjmgaaDoor.Am
