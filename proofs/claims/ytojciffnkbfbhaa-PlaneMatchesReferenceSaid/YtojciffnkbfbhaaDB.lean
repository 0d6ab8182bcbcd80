import Derived.Test.YtojciffnkbfbhaaD8
import Derived.Test.YtojciffnkbfbhaaDA
namespace Go.Proofs.Ytojciffnkbfbhaa.Am
open Go
attribute [local irreducible] awp seqK blkK backK endK inlK restK rngK asgK itK
set_option maxRecDepth 100000
set_option maxHeartbeats 8000000
set_option linter.unusedSimpArgs false
set_option linter.unusedVariables false
/-! putlog/putloglaw07.at -/
def D_putloglaw07_at (N : Nat) (x1449 : Int) (y1450 : Int) : Option (Int × Int) :=
  some (x1449, y1450)

def T18 (N : Nat) : List (Nat × Spec) := []
theorem T18_ok (N : Nat) : TabOK Try.prog (tabOf (T18 N)) := tab_nil

section
attribute [local go_sem] T18 rowAt_zero rowAt_succ List.set_cons_succ List.isEmpty_map List.map_append List.map_eq_nil_iff ne_eq List.length_replicate takeMap dropMap List.length_set Option.isSome_some
theorem D_putloglaw07_at_ok (N : Nat) (x1449 : Int) (y1450 : Int) (r : Int × Int) (h : D_putloglaw07_at N x1449 y1450 = some r) : PCall Try.prog 18 [.i x1449, .i y1450] (.agg [.i r.1, .i r.2]) := by
  refine pcall_fn (T18_ok N) _ Try.func18 ok18 nt18 (by simp) fun _ => ?_
  have hS := T18_ok N
  have F := f0
  unfold ac18 rv18
  unfold D_putloglaw07_at at h
  obtain rfl := Option.some.inj h
  refine go hS F ?_
  exact fin F
end

def s18 (N : Nat) : Spec
  | [.v (.int .i64 x1449), .v (.int .i64 y1450)] => some (True, .agg [.i x1449, .i y1450])
  | _ => none
theorem fok18 (N : Nat) : FOK Try.prog 18 (s18 N) := ⟨of18, by
  intro args vc r h hv
  unfold s18 at h
  split at h
  · cases h
    refine PCall.arg ?_ (D_putloglaw07_at_ok N _ _ _ rfl)
    simp only [wkL, wk, and_true, true_and, Bool.false_eq_true, false_implies, implies_true]
    try trivial
  · simp at h⟩

/-! putlog/putloglaw07.pick -/
def D_putloglaw07_pick (N : Nat) (c1451 : Int) (n1452 : Int) : Option Int :=
  bif decide (c1451 < 0) then (
    gd (I64 (c1451 + 1)) <|
    gd (I64 (-(c1451 + 1))) <|
    gd (n1452 ≠ 0) <|
    some ((-(c1451 + 1)).tmod n1452))
  else (
    gd (n1452 ≠ 0) <|
    some (c1451.tmod n1452))

def T21 (N : Nat) : List (Nat × Spec) := []
theorem T21_ok (N : Nat) : TabOK Try.prog (tabOf (T21 N)) := tab_nil

section
attribute [local go_sem] T21 rowAt_zero rowAt_succ List.set_cons_succ List.isEmpty_map List.map_append List.map_eq_nil_iff ne_eq List.length_replicate takeMap dropMap List.length_set Option.isSome_some
theorem D_putloglaw07_pick_ok (N : Nat) (c1451 : Int) (n1452 : Int) (r : Int) (h : D_putloglaw07_pick N c1451 n1452 = some r) : PCall Try.prog 21 [.i c1451, .i n1452] (.i r) := by
  refine pcall_fn (T21_ok N) _ Try.func21 ok21 nt21 (by simp) fun _ => ?_
  have hS := T21_ok N
  have F := f0
  unfold ac21 rv21
  unfold D_putloglaw07_pick at h
  refine go hS F ?_
  refine cb F (decide (c1451 < 0)) (fun hc1 => ?_) (fun hc1 => ?_)
  · replace h := cond_t hc1 h
    try simp only [gd_some, Option.bind_eq_some_iff] at h
    obtain ⟨hv2, hv3, hv4, h⟩ := h
    simp only [I64] at hv2
    simp only [I64] at hv3
    obtain rfl := Option.some.inj h
    refine go hS F ?_
    exact fin F
  · replace h := cond_f hc1 h
    try simp only [gd_some, Option.bind_eq_some_iff] at h
    obtain ⟨hv5, h⟩ := h
    obtain rfl := Option.some.inj h
    refine go hS F ?_
    exact fin F
end

def s21 (N : Nat) : Spec
  | [.v (.int .i64 c1451), .v (.int .i64 n1452)] => some ((D_putloglaw07_pick N c1451 n1452).isSome = true, .i ((D_putloglaw07_pick N c1451 n1452).getD 0))
  | _ => none
theorem fok21 (N : Nat) : FOK Try.prog 21 (s21 N) := ⟨of21, by
  intro args vc r h hv
  unfold s21 at h
  split at h
  · cases h
    have hs := hv
    obtain ⟨r, hr⟩ := Option.isSome_iff_exists.1 hs
    have hk := D_putloglaw07_pick_ok N _ _ r hr
    simp only [hr, Option.getD_some]
    refine PCall.arg ?_ hk
    simp only [wkL, wk, and_true, true_and, Bool.false_eq_true, false_implies, implies_true]
    try trivial
  · simp at h⟩

/-! putlog/putloglaw07.sane -/
def D_putloglaw07_sane (N : Nat) : Option Bool :=
  (D_plane_Moments N [(0, 0), (6, 0), (0, 4)]).bind fun (r1453, r1454) =>
  (D_plane_Lattice N [(0, 0), (6, 0), (0, 4)]).bind fun (r1456, r1457) =>
  (D_plane_Cut N [(0, 0), (4, 0), (4, 4), (0, 4)] 0 2).bind fun (r1459, r1460, r1461) =>
  (D_plane_Cut N [(0, 0), (4, 0), (4, 4), (0, 4)] 0 1).bind fun (r1463, r1464, r1465) =>
  (D_plane_Move N [(0, 0), (6, 0), (0, 4)] 1 2).bind fun (r1467, r1468) =>
  (D_plane_Seam N [(0, 0), (4, 0), (4, 4), (0, 4)] [(4, 2), (8, 2), (8, 6), (4, 6)]).bind fun (((r1470, r1471), (r1472, r1473)), r1474) =>
  (D_plane_Seam N [(4, 2), (8, 2), (8, 6), (4, 6)] [(0, 0), (4, 0), (4, 4), (0, 4)]).bind fun (((r1476, r1477), (r1478, r1479)), r1480) =>
  (D_plane_Side N [(0, 0), (4, 0), (4, 4), (0, 4)] [(4, 2), (8, 2), (8, 6), (4, 6)]).bind fun (r1482, r1483, r1484) =>
  (D_plane_Side N [(0, 0), (4, 0), (4, 4), (0, 4)] [(3, 3), (7, 3), (3, 7)]).bind fun (r1486, r1487, r1488) =>
  bif ((((((decide (r1461 ≠ 0)) || (decide (r1465 ≠ 70))) || (decide (r1468 ≠ 0))) || (!r1474)) || (!r1480)) || (!r1484)) || r1488 then (
    some false)
  else (
    (D_plane_Area2 N [(0, 0), (6, 0), (0, 4)]).bind fun r1490 =>
    (D_plane_Inside N [(0, 0), (4, 0), (4, 4), (0, 4)] 2 2).bind fun r1492 =>
    gd ((decide (r1492 = 1)) = true → ((D_plane_Inside N [(0, 0), (4, 0), (4, 4), (0, 4)] 4 4).isSome = true)) <|
    gd (((decide (r1492 = 1)) && (decide ((D_plane_Inside N [(0, 0), (4, 0), (4, 4), (0, 4)] 4 4).getD 0 = 0))) = true → ((D_plane_Inside N [(0, 0), (4, 0), (4, 4), (0, 4)] 5 5).isSome = true)) <|
    gd ((((decide (r1492 = 1)) && (decide ((D_plane_Inside N [(0, 0), (4, 0), (4, 4), (0, 4)] 4 4).getD 0 = 0))) && (decide ((D_plane_Inside N [(0, 0), (4, 0), (4, 4), (0, 4)] 5 5).getD 0 = (-1)))) = true → ((D_plane_Cell N [(0, 0), (6, 0), (0, 4)] 1 2).isSome = true)) <|
    gd (((((decide (r1492 = 1)) && (decide ((D_plane_Inside N [(0, 0), (4, 0), (4, 4), (0, 4)] 4 4).getD 0 = 0))) && (decide ((D_plane_Inside N [(0, 0), (4, 0), (4, 4), (0, 4)] 5 5).getD 0 = (-1)))) && (decide ((D_plane_Cell N [(0, 0), (6, 0), (0, 4)] 1 2).getD 0 = 1))) = true → ((D_plane_Cell N [(0, 0), (6, 0), (0, 4)] 2 2).isSome = true)) <|
    gd (0 ≤ 0 ∧ 0 ≤ 3 ∧ 3 ≤ 4) <|
    (D_putlogref07_Same N r1459 [(0, 0), (4, 0), (4, 4)]).bind fun r1494 =>
    gd (r1494 = true → ((D_putlogref07_Same N r1460 [(4, 4), (0, 4), (0, 0)]).isSome = true)) <|
    gd ((r1494 && ((D_putlogref07_Same N r1460 [(4, 4), (0, 4), (0, 0)]).getD false)) = true → ((D_putlogref07_Same N r1467 [(1, 2), (7, 2), (1, 6)]).isSome = true)) <|
    gd (((((((((decide (r1490 = 24)) && (decide (r1453 = 144))) && (decide (r1454 = 96))) && (decide (r1456 = 7))) && (decide (r1457 = 12))) && (((((decide (r1492 = 1)) && (decide ((D_plane_Inside N [(0, 0), (4, 0), (4, 4), (0, 4)] 4 4).getD 0 = 0))) && (decide ((D_plane_Inside N [(0, 0), (4, 0), (4, 4), (0, 4)] 5 5).getD 0 = (-1)))) && (decide ((D_plane_Cell N [(0, 0), (6, 0), (0, 4)] 1 2).getD 0 = 1))) && (decide ((D_plane_Cell N [(0, 0), (6, 0), (0, 4)] 2 2).getD 0 = (-1))))) && ((r1494 && ((D_putlogref07_Same N r1460 [(4, 4), (0, 4), (0, 0)]).getD false)) && ((D_putlogref07_Same N r1467 [(1, 2), (7, 2), (1, 6)]).getD false))) && ((((decide (r1470 = 4) && (decide (r1471 = 2) && (decide (r1472 = 4) && decide (r1473 = 4)))) && (decide (r1476 = 4) && (decide (r1477 = 4) && (decide (r1478 = 4) && decide (r1479 = 2))))) && (decide (r1482 = 0))) && (decide (r1483 = 1)))) = true → ((D_plane_Valid N [(0, 0), (6, 0), (0, 4)]).isSome = true)) <|
    gd ((((((((((decide (r1490 = 24)) && (decide (r1453 = 144))) && (decide (r1454 = 96))) && (decide (r1456 = 7))) && (decide (r1457 = 12))) && (((((decide (r1492 = 1)) && (decide ((D_plane_Inside N [(0, 0), (4, 0), (4, 4), (0, 4)] 4 4).getD 0 = 0))) && (decide ((D_plane_Inside N [(0, 0), (4, 0), (4, 4), (0, 4)] 5 5).getD 0 = (-1)))) && (decide ((D_plane_Cell N [(0, 0), (6, 0), (0, 4)] 1 2).getD 0 = 1))) && (decide ((D_plane_Cell N [(0, 0), (6, 0), (0, 4)] 2 2).getD 0 = (-1))))) && ((r1494 && ((D_putlogref07_Same N r1460 [(4, 4), (0, 4), (0, 0)]).getD false)) && ((D_putlogref07_Same N r1467 [(1, 2), (7, 2), (1, 6)]).getD false))) && ((((decide (r1470 = 4) && (decide (r1471 = 2) && (decide (r1472 = 4) && decide (r1473 = 4)))) && (decide (r1476 = 4) && (decide (r1477 = 4) && (decide (r1478 = 4) && decide (r1479 = 2))))) && (decide (r1482 = 0))) && (decide (r1483 = 1)))) && ((D_plane_Valid N [(0, 0), (6, 0), (0, 4)]).getD false)) = true) <|
    gd (0 ≤ 0 ∧ 0 ≤ 2 ∧ 2 ≤ 3) <|
    gd ((((((((((decide (r1490 = 24)) && (decide (r1453 = 144))) && (decide (r1454 = 96))) && (decide (r1456 = 7))) && (decide (r1457 = 12))) && (((((decide (r1492 = 1)) && (decide ((D_plane_Inside N [(0, 0), (4, 0), (4, 4), (0, 4)] 4 4).getD 0 = 0))) && (decide ((D_plane_Inside N [(0, 0), (4, 0), (4, 4), (0, 4)] 5 5).getD 0 = (-1)))) && (decide ((D_plane_Cell N [(0, 0), (6, 0), (0, 4)] 1 2).getD 0 = 1))) && (decide ((D_plane_Cell N [(0, 0), (6, 0), (0, 4)] 2 2).getD 0 = (-1))))) && ((r1494 && ((D_putlogref07_Same N r1460 [(4, 4), (0, 4), (0, 0)]).getD false)) && ((D_putlogref07_Same N r1467 [(1, 2), (7, 2), (1, 6)]).getD false))) && ((((decide (r1470 = 4) && (decide (r1471 = 2) && (decide (r1472 = 4) && decide (r1473 = 4)))) && (decide (r1476 = 4) && (decide (r1477 = 4) && (decide (r1478 = 4) && decide (r1479 = 2))))) && (decide (r1482 = 0))) && (decide (r1483 = 1)))) && ((D_plane_Valid N [(0, 0), (6, 0), (0, 4)]).getD false)) = true → ((D_plane_Valid N [(0, 0), (6, 0)]).isSome = true)) <|
    gd (((((((((((decide (r1490 = 24)) && (decide (r1453 = 144))) && (decide (r1454 = 96))) && (decide (r1456 = 7))) && (decide (r1457 = 12))) && (((((decide (r1492 = 1)) && (decide ((D_plane_Inside N [(0, 0), (4, 0), (4, 4), (0, 4)] 4 4).getD 0 = 0))) && (decide ((D_plane_Inside N [(0, 0), (4, 0), (4, 4), (0, 4)] 5 5).getD 0 = (-1)))) && (decide ((D_plane_Cell N [(0, 0), (6, 0), (0, 4)] 1 2).getD 0 = 1))) && (decide ((D_plane_Cell N [(0, 0), (6, 0), (0, 4)] 2 2).getD 0 = (-1))))) && ((r1494 && ((D_putlogref07_Same N r1460 [(4, 4), (0, 4), (0, 0)]).getD false)) && ((D_putlogref07_Same N r1467 [(1, 2), (7, 2), (1, 6)]).getD false))) && ((((decide (r1470 = 4) && (decide (r1471 = 2) && (decide (r1472 = 4) && decide (r1473 = 4)))) && (decide (r1476 = 4) && (decide (r1477 = 4) && (decide (r1478 = 4) && decide (r1479 = 2))))) && (decide (r1482 = 0))) && (decide (r1483 = 1)))) && ((D_plane_Valid N [(0, 0), (6, 0), (0, 4)]).getD false)) && (!((D_plane_Valid N [(0, 0), (6, 0)]).getD false))) = true → ((D_plane_Overlap N [(0, 0), (4, 0), (4, 4), (0, 4)] [(4, 2), (8, 2), (8, 6), (4, 6)]).isSome = true)) <|
    gd ((((((((((((decide (r1490 = 24)) && (decide (r1453 = 144))) && (decide (r1454 = 96))) && (decide (r1456 = 7))) && (decide (r1457 = 12))) && (((((decide (r1492 = 1)) && (decide ((D_plane_Inside N [(0, 0), (4, 0), (4, 4), (0, 4)] 4 4).getD 0 = 0))) && (decide ((D_plane_Inside N [(0, 0), (4, 0), (4, 4), (0, 4)] 5 5).getD 0 = (-1)))) && (decide ((D_plane_Cell N [(0, 0), (6, 0), (0, 4)] 1 2).getD 0 = 1))) && (decide ((D_plane_Cell N [(0, 0), (6, 0), (0, 4)] 2 2).getD 0 = (-1))))) && ((r1494 && ((D_putlogref07_Same N r1460 [(4, 4), (0, 4), (0, 0)]).getD false)) && ((D_putlogref07_Same N r1467 [(1, 2), (7, 2), (1, 6)]).getD false))) && ((((decide (r1470 = 4) && (decide (r1471 = 2) && (decide (r1472 = 4) && decide (r1473 = 4)))) && (decide (r1476 = 4) && (decide (r1477 = 4) && (decide (r1478 = 4) && decide (r1479 = 2))))) && (decide (r1482 = 0))) && (decide (r1483 = 1)))) && ((D_plane_Valid N [(0, 0), (6, 0), (0, 4)]).getD false)) && (!((D_plane_Valid N [(0, 0), (6, 0)]).getD false))) && (!((D_plane_Overlap N [(0, 0), (4, 0), (4, 4), (0, 4)] [(4, 2), (8, 2), (8, 6), (4, 6)]).getD false))) = true → ((D_plane_Overlap N [(0, 0), (4, 0), (4, 4), (0, 4)] [(3, 3), (7, 3), (3, 7)]).isSome = true)) <|
    some ((((((((((((decide (r1490 = 24)) && (decide (r1453 = 144))) && (decide (r1454 = 96))) && (decide (r1456 = 7))) && (decide (r1457 = 12))) && (((((decide (r1492 = 1)) && (decide ((D_plane_Inside N [(0, 0), (4, 0), (4, 4), (0, 4)] 4 4).getD 0 = 0))) && (decide ((D_plane_Inside N [(0, 0), (4, 0), (4, 4), (0, 4)] 5 5).getD 0 = (-1)))) && (decide ((D_plane_Cell N [(0, 0), (6, 0), (0, 4)] 1 2).getD 0 = 1))) && (decide ((D_plane_Cell N [(0, 0), (6, 0), (0, 4)] 2 2).getD 0 = (-1))))) && ((r1494 && ((D_putlogref07_Same N r1460 [(4, 4), (0, 4), (0, 0)]).getD false)) && ((D_putlogref07_Same N r1467 [(1, 2), (7, 2), (1, 6)]).getD false))) && ((((decide (r1470 = 4) && (decide (r1471 = 2) && (decide (r1472 = 4) && decide (r1473 = 4)))) && (decide (r1476 = 4) && (decide (r1477 = 4) && (decide (r1478 = 4) && decide (r1479 = 2))))) && (decide (r1482 = 0))) && (decide (r1483 = 1)))) && ((D_plane_Valid N [(0, 0), (6, 0), (0, 4)]).getD false)) && (!((D_plane_Valid N [(0, 0), (6, 0)]).getD false))) && (!((D_plane_Overlap N [(0, 0), (4, 0), (4, 4), (0, 4)] [(4, 2), (8, 2), (8, 6), (4, 6)]).getD false))) && ((D_plane_Overlap N [(0, 0), (4, 0), (4, 4), (0, 4)] [(3, 3), (7, 3), (3, 7)]).getD false)))

def T10 (N : Nat) : List (Nat × Spec) := [(18, s18 N), (25, s25 N), (16, s16 N), (22, s22 N), (30, s30 N), (23, s23 N), (26, s26 N), (20, s20 N), (17, s17 N), (27, s27 N), (32, s32 N), (19, s19 N), (24, s24 N)]
theorem T10_ok (N : Nat) : TabOK Try.prog (tabOf (T10 N)) := tab_cons (fok18 N) (tab_cons (fok25 N) (tab_cons (fok16 N) (tab_cons (fok22 N) (tab_cons (fok30 N) (tab_cons (fok23 N) (tab_cons (fok26 N) (tab_cons (fok20 N) (tab_cons (fok17 N) (tab_cons (fok27 N) (tab_cons (fok32 N) (tab_cons (fok19 N) (tab_cons (fok24 N) (tab_nil)))))))))))))

section
attribute [local go_sem] T10 s18 s25 s16 s22 s30 s23 s26 s20 s17 s27 s32 s19 s24 e_ii de_ii rb_ii d_ii rowAt_zero rowAt_succ List.set_cons_succ List.isEmpty_map List.map_append List.map_eq_nil_iff ne_eq List.length_replicate takeMap dropMap List.length_set Option.isSome_some
theorem D_putloglaw07_sane_ok (N : Nat) (r : Bool) (h : D_putloglaw07_sane N = some r) : PCall Try.prog 10 [] (.b r) := by
  refine pcall_fn (T10_ok N) _ Try.func10 ok10 nt10 (by simp) fun _ => ?_
  have hS := T10_ok N
  have F := f0
  unfold ac10 rv10
  unfold D_putloglaw07_sane at h
  try simp only [gd_some, Option.bind_eq_some_iff] at h
  obtain ⟨⟨r1453, r1454⟩, hr1454, h⟩ := h
  replace F := fc hr1454 F
  try simp only [gd_some, Option.bind_eq_some_iff] at h
  obtain ⟨⟨r1456, r1457⟩, hr1457, h⟩ := h
  replace F := fc hr1457 F
  try simp only [gd_some, Option.bind_eq_some_iff] at h
  obtain ⟨⟨r1459, r1460, r1461⟩, hr1461, h⟩ := h
  replace F := fc hr1461 F
  try simp only [gd_some, Option.bind_eq_some_iff] at h
  obtain ⟨⟨r1463, r1464, r1465⟩, hr1465, h⟩ := h
  replace F := fc hr1465 F
  try simp only [gd_some, Option.bind_eq_some_iff] at h
  obtain ⟨⟨r1467, r1468⟩, hr1468, h⟩ := h
  replace F := fc hr1468 F
  try simp only [gd_some, Option.bind_eq_some_iff] at h
  obtain ⟨⟨⟨⟨r1470, r1471⟩, ⟨r1472, r1473⟩⟩, r1474⟩, hr1474, h⟩ := h
  replace F := fc hr1474 F
  try simp only [gd_some, Option.bind_eq_some_iff] at h
  obtain ⟨⟨⟨⟨r1476, r1477⟩, ⟨r1478, r1479⟩⟩, r1480⟩, hr1480, h⟩ := h
  replace F := fc hr1480 F
  try simp only [gd_some, Option.bind_eq_some_iff] at h
  obtain ⟨⟨r1482, r1483, r1484⟩, hr1484, h⟩ := h
  replace F := fc hr1484 F
  try simp only [gd_some, Option.bind_eq_some_iff] at h
  obtain ⟨⟨r1486, r1487, r1488⟩, hr1488, h⟩ := h
  replace F := fc hr1488 F
  refine go hS F ?_
  refine cb F (((((((decide (r1461 ≠ 0)) || (decide (r1465 ≠ 70))) || (decide (r1468 ≠ 0))) || (!r1474)) || (!r1480)) || (!r1484)) || r1488) (fun hc1 => ?_) (fun hc1 => ?_)
  · replace h := cond_t hc1 h
    obtain rfl := Option.some.inj h
    refine go hS F ?_
    exact fin F
  · replace h := cond_f hc1 h
    try simp only [gd_some, Option.bind_eq_some_iff] at h
    obtain ⟨r1490, hr1490, r1492, hr1492, hv2, hv3, hv4, hv5, hv6, r1494, hr1494, hv7, hv8, hv9, hv10, hv11, hv12, hv13, hv14, h⟩ := h
    replace F := fc hr1494 (fc hr1492 (fc hr1490 F))
    obtain rfl := Option.some.inj h
    refine go hS F ?_
    exact fin F
end

def s10 (N : Nat) : Spec
  | [] => some ((D_putloglaw07_sane N).isSome = true, .b ((D_putloglaw07_sane N).getD false))
  | _ => none
theorem fok10 (N : Nat) : FOK Try.prog 10 (s10 N) := ⟨of10, by
  intro args vc r h hv
  unfold s10 at h
  split at h
  · cases h
    have hs := hv
    obtain ⟨r, hr⟩ := Option.isSome_iff_exists.1 hs
    have hk := D_putloglaw07_sane_ok N r hr
    simp only [hr, Option.getD_some]
    refine PCall.arg ?_ hk
    simp only [wkL, wk, and_true, true_and, Bool.false_eq_true, false_implies, implies_true]
    try trivial
  · simp at h⟩
end Go.Proofs.Ytojciffnkbfbhaa.Am
