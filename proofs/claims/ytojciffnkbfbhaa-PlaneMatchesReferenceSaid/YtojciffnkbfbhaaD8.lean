import Derived.Test.YtojciffnkbfbhaaD6
import Derived.Test.YtojciffnkbfbhaaD7
import Derived.Test.YtojciffnkbfbhaaP3
namespace Go.Proofs.Ytojciffnkbfbhaa.Am
open Go
attribute [local irreducible] awp seqK blkK backK endK inlK restK rngK asgK itK
set_option maxRecDepth 100000
set_option maxHeartbeats 8000000
set_option linter.unusedSimpArgs false
set_option linter.unusedVariables false
/-! putlog/plane.Seam -/
def D_plane_Seam_L2 (N : Nat) (y1351 : Int) (y1352 : Int) (y1353 : Int) (y1354 : Int) : List ((Int × Int) × (Int × Int)) → Option (Sum Unit ((((Int × Int) × (Int × Int)) × Bool)))
  | [] =>
    some (.inl ())
  | ((y1356, y1357), (y1358, y1359)) :: ys =>
    (D_plane_turn N y1351 y1352 y1353 y1354 y1356 y1357).bind fun r1360 =>
    gd ((!(decide (r1360 ≠ 0))) = true → ((D_plane_turn N y1351 y1352 y1353 y1354 y1358 y1359).isSome = true)) <|
    bif (decide (r1360 ≠ 0)) || (decide ((D_plane_turn N y1351 y1352 y1353 y1354 y1358 y1359).getD 0 ≠ 0)) then (
      D_plane_Seam_L2 N y1351 y1352 y1353 y1354 ys)
    else (
      (D_plane_common N y1351 y1352 y1353 y1354 y1356 y1357 y1358 y1359).bind fun ((r1362, r1363), (r1364, r1365)) =>
      gd ((!(decide (r1362 = r1364) && decide (r1363 = r1365))) = true → ((D_plane_order N r1362 r1363 r1364 r1365).isSome = true)) <|
      bif (decide (r1362 = r1364) && decide (r1363 = r1365)) || (decide (0 < (D_plane_order N r1362 r1363 r1364 r1365).getD 0)) then (
        D_plane_Seam_L2 N y1351 y1352 y1353 y1354 ys)
      else (
        (D_plane_order N y1351 y1352 y1353 y1354).bind fun r1367 =>
        bif decide (0 < r1367) then (
          some (.inr (((r1364, r1365), (r1362, r1363)), true)))
        else (
          some (.inr (((r1362, r1363), (r1364, r1365)), true)))))

def D_plane_Seam_L1 (N : Nat) (b1347 : List (Int × Int)) : List ((Int × Int) × (Int × Int)) → Option (Sum Unit ((((Int × Int) × (Int × Int)) × Bool)))
  | [] =>
    some (.inl ())
  | ((y1351, y1352), (y1353, y1354)) :: ys =>
    gd (b1347.length ≤ 1000000000) <|
    (D_plane_Seam_L2 N y1351 y1352 y1353 y1354 (edgesL b1347)).bind fun o1372 => match o1372 with
      | .inl () => (
        D_plane_Seam_L1 N b1347 ys)
      | .inr r1371 => (
        some (.inr r1371))

def D_plane_Seam (N : Nat) (a1346 : List (Int × Int)) (b1347 : List (Int × Int)) : Option (((Int × Int) × (Int × Int)) × Bool) :=
  (D_plane_Valid N a1346).bind fun r1348 =>
  gd ((!(!r1348)) = true → ((D_plane_Valid N b1347).isSome = true)) <|
  gd ((!((!r1348) || (!((D_plane_Valid N b1347).getD false)))) = true → ((D_plane_Overlap N a1346 b1347).isSome = true)) <|
  bif ((!r1348) || (!((D_plane_Valid N b1347).getD false))) || ((D_plane_Overlap N a1346 b1347).getD false) then (
    some (((0, 0), (0, 0)), false))
  else (
    gd (a1346.length ≤ 1000000000) <|
    (D_plane_Seam_L1 N b1347 (edgesL a1346)).bind fun o1376 => match o1376 with
      | .inl () => (
        some (((0, 0), (0, 0)), false))
      | .inr r1375 => (
        some r1375))

def T23 (N : Nat) : List (Nat × Spec) := [(19, s19 N), (24, s24 N), (46, sEdges), (51, s51 N), (55, s55 N), (56, s56 N)]
theorem T23_ok (N : Nat) : TabOK Try.prog (tabOf (T23 N)) := tab_cons (fok19 N) (tab_cons (fok24 N) (tab_cons edges_fok (tab_cons (fok51 N) (tab_cons (fok55 N) (tab_cons (fok56 N) (tab_nil))))))

section
attribute [local go_sem] T23 s19 s24 sEdges s51 s55 s56 e_ii de_ii rb_ii d_ii rowAt_zero rowAt_succ List.set_cons_succ List.isEmpty_map List.map_append List.map_eq_nil_iff ne_eq List.length_replicate takeMap dropMap List.length_set Option.isSome_some
theorem D_plane_Seam_ok (N : Nat) (a1346 : List (Int × Int)) (b1347 : List (Int × Int)) (r : ((Int × Int) × (Int × Int)) × Bool) (h : D_plane_Seam N a1346 b1347 = some r) : PCall Try.prog 23 [.sl 2 false (a1346.map e_ii) [.i 0, .i 0], .sl 2 false (b1347.map e_ii) [.i 0, .i 0]] (.tup [.agg [.i r.1.1.1, .i r.1.1.2, .i r.1.2.1, .i r.1.2.2], .b r.2]) := by
  refine pcall_fn (T23_ok N) _ Try.func23 ok23 nt23 (by simp) fun _ => ?_
  have hS := T23_ok N
  have F := f0
  unfold ac23 rv23
  unfold D_plane_Seam at h
  try simp only [gd_some, Option.bind_eq_some_iff] at h
  obtain ⟨r1348, hr1348, hv1, hv2, h⟩ := h
  replace F := fc hr1348 F
  refine go hS F ?_
  refine cb F (((!r1348) || (!((D_plane_Valid N b1347).getD false))) || ((D_plane_Overlap N a1346 b1347).getD false)) (fun hc3 => ?_) (fun hc3 => ?_)
  · replace h := cond_t hc3 h
    obtain rfl := Option.some.inj h
    refine go hS F ?_
    exact fin F
  · replace h := cond_f hc3 h
    try simp only [gd_some, Option.bind_eq_some_iff] at h
    obtain ⟨hv4, h⟩ := h
    try simp only [gd_some, Option.bind_eq_some_iff] at h
    obtain ⟨o1376, hL5, h⟩ := h
    refine go hS F ?_
    refine awp_cut (fun z : Nat => ⟨[(4, .box (1, 1) 0), (5, .box (2, 1) 0)], [(.c (2, 1) 0, .b false), (.c (1, 1) 0, .i 0), (.c (1, 1) 1, .i 0), (.c (1, 1) 2, .i 0), (.c (1, 1) 3, .i 0)], z⟩) (fun z => (.inl () : Sum Unit ((((Int × Int) × (Int × Int)) × Bool))) = o1376) .n ?_ ?_
    · refine awp_rfunG (fun y : Nat × Nat => ([(.c (2, 1) 0, .b false), (.c (1, 1) 0, .i 0), (.c (1, 1) 1, .i 0), (.c (1, 1) 2, .i 0), (.c (1, 1) 3, .i 0), (.c (0, 1) 0, .sl 2 false (b1347.map e_ii) [.i 0, .i 0])], y.2)) (fun y => D_plane_Seam_L1 N b1347 ((edgesL a1346).drop y.1) = some o1376 ∧ y.1 ≤ (edgesL a1346).length) (fun y => y.1) (0, 3) (by simp only [go_sem, seval, F] <;> eq_refl) (edges_it a1346 false (by assumption)) of64 ⟨rfl, rfl⟩ (by simp) (by intro a ha; obtain ⟨y, _, rfl⟩ := List.mem_map.1 ha; exact ⟨rfl, rfl⟩) ⟨hL5, Nat.zero_le _⟩ rfl ?_ ?_ ?_
      · exact leF F
      · rintro l ⟨n, c1350⟩ ⟨hB6, hle⟩ args ha7
        obtain ⟨⟨⟨y1351, y1352⟩, ⟨y1353, y1354⟩⟩, hy8, rfl, hlt⟩ := rd_step ha7
        rw [hy8, D_plane_Seam_L1] at hB6
        try simp only at hB6
        clear ha7 hy8
        simp only [edA, putps]
        try simp only [gd_some, Option.bind_eq_some_iff] at hB6
        obtain ⟨hv9, hB6⟩ := hB6
        try simp only [gd_some, Option.bind_eq_some_iff] at hB6
        obtain ⟨o1372, hL10, hB6⟩ := hB6
        refine go hS F ?_
        refine awp_cut (fun z : Nat => ⟨[(3, .box (0, 1) 0), (4, .box (1, 1) 0), (5, .box (2, 1) 0), (6, .box (400, c1350 + 1) 0), (7, .box (500, c1350 + 1 + 1) 0), (27, .clo (.func 64) [] [.ro [.sl 2 false (a1346.map e_ii) [.i 0, .i 0]] 0]), (28, .agg [.i y1351, .i y1352]), (29, .agg [.i y1353, .i y1354])], [(.c (500, c1350 + 1 + 1) 0, .i y1353), (.c (500, c1350 + 1 + 1) 1, .i y1354), (.c (400, c1350 + 1) 0, .i y1351), (.c (400, c1350 + 1) 1, .i y1352), (.c (2, 1) 0, .b false), (.c (1, 1) 0, .i 0), (.c (1, 1) 1, .i 0), (.c (1, 1) 2, .i 0), (.c (1, 1) 3, .i 0), (.c (0, 1) 0, .sl 2 false (b1347.map e_ii) [.i 0, .i 0])], z⟩) (fun z => (.inl () : Sum Unit ((((Int × Int) × (Int × Int)) × Bool))) = o1372) .n ?_ ?_
        · refine awp_rfunN (fun y : Nat × Nat => ([(.c (500, c1350 + 1 + 1) 0, .i y1353), (.c (500, c1350 + 1 + 1) 1, .i y1354), (.c (400, c1350 + 1) 0, .i y1351), (.c (400, c1350 + 1) 1, .i y1352), (.c (2, 1) 0, .b false), (.c (1, 1) 0, .i 0), (.c (1, 1) 1, .i 0), (.c (1, 1) 2, .i 0), (.c (1, 1) 3, .i 0), (.c (0, 1) 0, .sl 2 false (b1347.map e_ii) [.i 0, .i 0])], y.2)) (fun y => D_plane_Seam_L2 N y1351 y1352 y1353 y1354 ((edgesL b1347).drop y.1) = some o1372 ∧ y.1 ≤ (edgesL b1347).length) (fun y => y.1) (0, c1350 + 1 + 1 + 1) (by simp only [go_sem, seval, F] <;> eq_refl) (edges_it b1347 false (by assumption)) of64 ⟨rfl, rfl⟩ (by simp) (by intro a ha; obtain ⟨y, _, rfl⟩ := List.mem_map.1 ha; exact ⟨rfl, rfl⟩) (edges_tr b1347 false _) ⟨hL10, Nat.zero_le _⟩ rfl ?_ ?_ ?_
          · exact leF F
          · rintro l ⟨n, c1355⟩ ⟨hB11, hle⟩ args ha12
            obtain ⟨⟨⟨y1356, y1357⟩, ⟨y1358, y1359⟩⟩, hy13, rfl, hlt⟩ := rd_step ha12
            rw [hy13, D_plane_Seam_L2] at hB11
            try simp only at hB11
            clear ha12 hy13
            simp only [edA, putps]
            try simp only [gd_some, Option.bind_eq_some_iff] at hB11
            obtain ⟨r1360, hr1360, hv14, hB11⟩ := hB11
            replace F := fc hr1360 F
            refine go hS F ?_
            refine cb F ((decide (r1360 ≠ 0)) || (decide ((D_plane_turn N y1351 y1352 y1353 y1354 y1358 y1359).getD 0 ≠ 0))) (fun hc15 => ?_) (fun hc15 => ?_)
            · replace hB11 := cond_t hc15 hB11
              refine go hS F ?_
              exact rngK_n (n + 1, c1355 + 1 + 1 + 1) ⟨hB11, by omega⟩ rfl (leF F)
            · replace hB11 := cond_f hc15 hB11
              try simp only [gd_some, Option.bind_eq_some_iff] at hB11
              obtain ⟨⟨⟨r1362, r1363⟩, ⟨r1364, r1365⟩⟩, hr1365, hB11⟩ := hB11
              replace F := fc hr1365 F
              try simp only [gd_some, Option.bind_eq_some_iff] at hB11
              obtain ⟨hv16, hB11⟩ := hB11
              refine go hS F ?_
              refine cb F ((decide (r1362 = r1364) && decide (r1363 = r1365)) || (decide (0 < (D_plane_order N r1362 r1363 r1364 r1365).getD 0))) (fun hc17 => ?_) (fun hc17 => ?_)
              · replace hB11 := cond_t hc17 hB11
                refine go hS F ?_
                exact rngK_n (n + 1, c1355 + 1 + 1 + 1 + 1 + 1) ⟨hB11, by omega⟩ rfl (leF F)
              · replace hB11 := cond_f hc17 hB11
                try simp only [gd_some, Option.bind_eq_some_iff] at hB11
                obtain ⟨r1367, hr1367, hB11⟩ := hB11
                replace F := fc hr1367 F
                refine go hS F ?_
                refine cb F (decide (0 < r1367)) (fun hc18 => ?_) (fun hc18 => ?_)
                · replace hB11 := cond_t hc18 hB11
                  obtain rfl := Option.some.inj hB11
                  try simp only at hB6
                  obtain rfl := Option.some.inj hB6
                  try simp only at h
                  obtain rfl := Option.some.inj h
                  refine go hS F ?_
                  exact fin F
                · replace hB11 := cond_f hc18 hB11
                  obtain rfl := Option.some.inj hB11
                  try simp only at hB6
                  obtain rfl := Option.some.inj hB6
                  try simp only at h
                  obtain rfl := Option.some.inj h
                  refine go hS F ?_
                  exact fin F
          · rintro ⟨n, c1355⟩ ⟨hB11, hle⟩ hk
            rw [show n = _ from hk, drop_all, D_plane_Seam_L2] at hB11
            try simp only at hB11
            refine go hS F ?_
            exact cutK_h (c1355) (Option.some.inj hB11) (leF F)
        · rintro c1370 hz19
          subst hz19
          try simp only at hB6
          refine go hS F ?_
          exact rngK_n (n + 1, c1370) ⟨hB6, by omega⟩ rfl (leF F)
      · rintro ⟨n, c1350⟩ ⟨hB6, hle⟩ hk
        rw [show n = _ from hk, drop_all, D_plane_Seam_L1] at hB6
        try simp only at hB6
        refine go hS F ?_
        exact cutK_h (c1350) (Option.some.inj hB6) (leF F)
    · rintro c1374 hz20
      subst hz20
      try simp only at h
      obtain rfl := Option.some.inj h
      refine go hS F ?_
      exact fin F
end

def s23 (N : Nat) : Spec
  | [.sl ya1346 _ a1346 _, .sl yb1347 _ b1347 _] => some (((ya1346 = 2 ∨ a1346 = []) ∧ a1346 = (a1346.map d_ii).map e_ii) ∧ ((yb1347 = 2 ∨ b1347 = []) ∧ b1347 = (b1347.map d_ii).map e_ii) ∧ (D_plane_Seam N (a1346.map d_ii) (b1347.map d_ii)).isSome = true, .tup [.agg [.i (((((D_plane_Seam N (a1346.map d_ii) (b1347.map d_ii)).getD (((0, 0), (0, 0)), false)).1).1).1), .i (((((D_plane_Seam N (a1346.map d_ii) (b1347.map d_ii)).getD (((0, 0), (0, 0)), false)).1).1).2), .i (((((D_plane_Seam N (a1346.map d_ii) (b1347.map d_ii)).getD (((0, 0), (0, 0)), false)).1).2).1), .i (((((D_plane_Seam N (a1346.map d_ii) (b1347.map d_ii)).getD (((0, 0), (0, 0)), false)).1).2).2)], .b (((D_plane_Seam N (a1346.map d_ii) (b1347.map d_ii)).getD (((0, 0), (0, 0)), false)).2)])
  | _ => none
theorem fok23 (N : Nat) : FOK Try.prog 23 (s23 N) := ⟨of23, by
  intro args vc r h hv
  unfold s23 at h
  split at h
  · cases h
    obtain ⟨⟨hy0, hr0⟩, ⟨hy1, hr1⟩, hs⟩ := hv
    obtain ⟨r, hr⟩ := Option.isSome_iff_exists.1 hs
    have hk := D_plane_Seam_ok N _ _ r hr
    simp only [hr, Option.getD_some]
    refine PCall.arg ?_ hk
    simp only [wkL, wk, and_true, true_and, Bool.false_eq_true, false_implies, implies_true]
    repeat' (first | exact True.intro | assumption | apply And.intro)
  · simp at h⟩
end Go.Proofs.Ytojciffnkbfbhaa.Am
