import Derived.Test.YtojciffnkbfbhaaP1
namespace Go.Proofs.Ytojciffnkbfbhaa.Am
open Go
attribute [local irreducible] awp seqK blkK backK endK inlK restK rngK asgK itK
set_option maxRecDepth 100000
set_option maxHeartbeats 8000000
set_option linter.unusedSimpArgs false
set_option linter.unusedVariables false
/-! putlog/plane.side -/
def D_plane_side_L1 (N : Nat) (p937 : Int) (p938 : Int) : List ((Int × Int) × (Int × Int)) → Int → Option Int
  | [], least947 =>
    some least947
  | ((y948, y949), (y950, y951)) :: ys, least947 =>
    (D_plane_turn N y948 y949 y950 y951 p937 p938).bind fun r952 =>
    D_plane_side_L1 N p937 p938 ys (min least947 r952)

def D_plane_side (N : Nat) (l936 : List (Int × Int)) (p937 : Int) (p938 : Int) : Option Int :=
  gd (l936.length ≤ 1000000000) <|
  (D_plane_side_L1 N p937 p938 (edgesL l936) 4611686018427387903).bind fun least957 =>
  (D_cmp_Compare_int N least957 0).bind fun r959 =>
  some r959

def T49 (N : Nat) : List (Nat × Spec) := [(46, sEdges), (51, s51 N), (65, s65 N)]
theorem T49_ok (N : Nat) : TabOK Try.prog (tabOf (T49 N)) := tab_cons edges_fok (tab_cons (fok51 N) (tab_cons (fok65 N) (tab_nil)))

section
attribute [local go_sem] T49 sEdges s51 s65 e_ii de_ii rb_ii d_ii rowAt_zero rowAt_succ List.set_cons_succ List.isEmpty_map List.map_append List.map_eq_nil_iff ne_eq List.length_replicate takeMap dropMap List.length_set Option.isSome_some
theorem D_plane_side_ok (N : Nat) (l936 : List (Int × Int)) (p937 : Int) (p938 : Int) (r : Int) (h : D_plane_side N l936 p937 p938 = some r) : PCall Try.prog 49 [.sl 2 false (l936.map e_ii) [.i 0, .i 0], .agg [.i p937, .i p938]] (.i r) := by
  refine pcall_fn (T49_ok N) _ Try.func49 ok49 nt49 (by simp) fun _ => ?_
  have hS := T49_ok N
  have F := f0
  unfold ac49 rv49
  unfold D_plane_side at h
  try simp only [gd_some, Option.bind_eq_some_iff] at h
  obtain ⟨hv1, h⟩ := h
  try simp only [gd_some, Option.bind_eq_some_iff] at h
  obtain ⟨o958, hL2, h⟩ := h
  refine go hS F ?_
  refine awp_cut (fun z : Int × Nat => ⟨[(5, .box (100, 2) 0)], [(.c (100, 2) 0, .i z.1)], z.2⟩) (fun z => (z.1 : Int) = o958) .n ?_ ?_
  · refine awp_rfun (fun y : Nat × Int × Nat => ([(.c (100, 2) 0, .i y.2.1), (.c (0, 1) 0, .i p937), (.c (0, 1) 1, .i p938)], y.2.2)) (fun y => D_plane_side_L1 N p937 p938 ((edgesL l936).drop y.1) y.2.1 = some o958 ∧ y.1 ≤ (edgesL l936).length) (fun y => y.1) (0, 4611686018427387903, 3) (by simp only [go_sem, seval, F] <;> eq_refl) (edges_it l936 false (by assumption)) of64 ⟨rfl, rfl⟩ (by simp) (by intro a ha; obtain ⟨y, _, rfl⟩ := List.mem_map.1 ha; exact ⟨rfl, rfl⟩) ⟨hL2, Nat.zero_le _⟩ rfl ?_ ?_ ?_
    · exact leF F
    · rintro l ⟨n, least947, c946⟩ ⟨hB3, hle⟩ args ha4
      obtain ⟨⟨⟨y948, y949⟩, ⟨y950, y951⟩⟩, hy5, rfl, hlt⟩ := rd_step ha4
      rw [hy5, D_plane_side_L1] at hB3
      try simp only at hB3
      clear ha4 hy5
      simp only [edA, putps]
      try simp only [gd_some, Option.bind_eq_some_iff] at hB3
      obtain ⟨r952, hr952, hB3⟩ := hB3
      replace F := fc hr952 F
      refine go hS F ?_
      exact rngK_n (n + 1, min least947 r952, c946 + 1 + 1 + 1) ⟨hB3, by omega⟩ rfl (leF F)
    · rintro ⟨n, least947, c946⟩ ⟨hB3, hle⟩ hk
      rw [show n = _ from hk, drop_all, D_plane_side_L1] at hB3
      try simp only at hB3
      refine go hS F ?_
      exact cutK_h (least947, c946) (Option.some.inj hB3) (leF F)
  · rintro ⟨least957, c956⟩ hz6
    subst hz6
    try simp only at h
    try simp only [gd_some, Option.bind_eq_some_iff] at h
    obtain ⟨r959, hr959, h⟩ := h
    replace F := fc hr959 F
    obtain rfl := Option.some.inj h
    refine go hS F ?_
    exact fin F
end

def s49 (N : Nat) : Spec
  | [.sl yl936 _ l936 _, .agg [.v (.int .i64 p937), .v (.int .i64 p938)]] => some (((yl936 = 2 ∨ l936 = []) ∧ l936 = (l936.map d_ii).map e_ii) ∧ (D_plane_side N (l936.map d_ii) p937 p938).isSome = true, .i ((D_plane_side N (l936.map d_ii) p937 p938).getD 0))
  | _ => none
theorem fok49 (N : Nat) : FOK Try.prog 49 (s49 N) := ⟨of49, by
  intro args vc r h hv
  unfold s49 at h
  split at h
  · cases h
    obtain ⟨⟨hy0, hr0⟩, hs⟩ := hv
    obtain ⟨r, hr⟩ := Option.isSome_iff_exists.1 hs
    have hk := D_plane_side_ok N _ _ _ r hr
    simp only [hr, Option.getD_some]
    refine PCall.arg ?_ hk
    simp only [wkL, wk, and_true, true_and, Bool.false_eq_true, false_implies, implies_true]
    repeat' (first | exact True.intro | assumption | apply And.intro)
  · simp at h⟩
end Go.Proofs.Ytojciffnkbfbhaa.Am
