import Derived.Test.YtojciffnkbfbhaaDB
import Derived.Test.YtojciffnkbfbhaaAl9
namespace Go.Proofs.Ytojciffnkbfbhaa.Am
open Go
attribute [local irreducible] awp seqK blkK backK endK inlK restK rngK asgK itK
set_option maxRecDepth 100000
set_option maxHeartbeats 8000000
set_option linter.unusedSimpArgs false
set_option linter.unusedVariables false
/-! putlog/putloglaw07.PlaneConvex -/
def D_putloglaw07_PlaneConvex_L1 (N : Nat) (r1503 : List (Int × Int)) (r1505 : Int) (r1507 : Int) : Nat → Bool → Int → Option Bool
  | 0, _, _ => none
  | n + 1, left1523, i1524 =>
    bif decide (i1524 < (r1503.length : Int)) then (
      gd (left1523 = true → (0 ≤ i1524 ∧ i1524 < (r1503.length : Int))) <|
      gd (left1523 = true → (I64 (i1524 + 1))) <|
      gd (left1523 = true → ((r1503.length : Int) ≠ 0)) <|
      gd (left1523 = true → (0 ≤ (i1524 + 1).tmod (r1503.length : Int) ∧ (i1524 + 1).tmod (r1503.length : Int) < (r1503.length : Int))) <|
      gd (left1523 = true → ((D_putlogref07_Turn N ((r1503.getD i1524.toNat (0, 0)).1) ((r1503.getD i1524.toNat (0, 0)).2) ((r1503.getD ((i1524 + 1).tmod (r1503.length : Int)).toNat (0, 0)).1) ((r1503.getD ((i1524 + 1).tmod (r1503.length : Int)).toNat (0, 0)).2) r1505 r1507).isSome = true)) <|
      gd (I64 (i1524 + 1)) <|
      D_putloglaw07_PlaneConvex_L1 N r1503 r1505 r1507 n (left1523 && (decide (0 < (D_putlogref07_Turn N ((r1503.getD i1524.toNat (0, 0)).1) ((r1503.getD i1524.toNat (0, 0)).2) ((r1503.getD ((i1524 + 1).tmod (r1503.length : Int)).toNat (0, 0)).1) ((r1503.getD ((i1524 + 1).tmod (r1503.length : Int)).toNat (0, 0)).2) r1505 r1507).getD 0))) (i1524 + 1))
    else (
      some left1523)

def D_putloglaw07_PlaneConvex_L3 (N : Nat) (r1505 : Int) (r1507 : Int) (r1503 : List (Int × Int)) : Nat → Bool → Int → Option Bool
  | 0, _, _ => none
  | n + 1, whole1556, i1557 =>
    bif decide (i1557 < 4) then (
      gd (whole1556 = true → (I64 (r1505 + (i1557.tmod 2)))) <|
      gd (whole1556 = true → (I64 (i1557.tdiv 2))) <|
      gd (whole1556 = true → (I64 (r1507 + (i1557.tdiv 2)))) <|
      gd (whole1556 = true → ((D_plane_Inside N r1503 (r1505 + (i1557.tmod 2)) (r1507 + (i1557.tdiv 2))).isSome = true)) <|
      gd (I64 (i1557 + 1)) <|
      D_putloglaw07_PlaneConvex_L3 N r1505 r1507 r1503 n (whole1556 && (decide (0 ≤ (D_plane_Inside N r1503 (r1505 + (i1557.tmod 2)) (r1507 + (i1557.tdiv 2))).getD 0))) (i1557 + 1))
    else (
      some whole1556)

def D_putloglaw07_PlaneConvex (N : Nat) (x1496 : List (Int × Int)) (px1497 : Int) (py1498 : Int) (qx1499 : Int) (qy1500 : Int) : Option Bool :=
  (D_putloglaw07_sane N).bind fun r1501 =>
  bif !r1501 then (
    some false)
  else (
    (D_putlogref07_Made N x1496 0 40).bind fun r1503 =>
    (D_putloglaw07_pick N px1497 41).bind fun r1505 =>
    (D_putloglaw07_pick N py1498 41).bind fun r1507 =>
    (D_putloglaw07_pick N qx1499 41).bind fun r1509 =>
    (D_putloglaw07_pick N qy1500 41).bind fun r1511 =>
    (D_putloglaw07_PlaneConvex_L1 N r1503 r1505 r1507 N true 0).bind fun left1529 =>
    (D_plane_Inside N r1503 r1505 r1507).bind fun r1531 =>
    bif (left1529 != (decide (r1531 = 1))) then (
      some false)
    else (
      gd (I64 (r1505 + r1509)) <|
      gd ((decide ((r1505 + r1509).tmod 2 = 0)) = true → (I64 (r1507 + r1511))) <|
      gd (((decide ((r1505 + r1509).tmod 2 = 0)) && (decide ((r1507 + r1511).tmod 2 = 0))) = true → ((D_plane_Inside N r1503 r1505 r1507).isSome = true)) <|
      gd ((((decide ((r1505 + r1509).tmod 2 = 0)) && (decide ((r1507 + r1511).tmod 2 = 0))) && (decide (0 ≤ (D_plane_Inside N r1503 r1505 r1507).getD 0))) = true → ((D_plane_Inside N r1503 r1509 r1511).isSome = true)) <|
      (bif (((decide ((r1505 + r1509).tmod 2 = 0)) && (decide ((r1507 + r1511).tmod 2 = 0))) && (decide (0 ≤ (D_plane_Inside N r1503 r1505 r1507).getD 0))) && (decide (0 ≤ (D_plane_Inside N r1503 r1509 r1511).getD 0)) then (
          gd (I64 (r1505 + r1509)) <|
          gd (I64 ((r1505 + r1509).tdiv 2)) <|
          gd (I64 (r1507 + r1511)) <|
          gd (I64 ((r1507 + r1511).tdiv 2)) <|
          (D_plane_Inside N r1503 ((r1505 + r1509).tdiv 2) ((r1507 + r1511).tdiv 2)).bind fun r1547 =>
          gd ((!(decide (r1547 < 0))) = true → ((D_plane_Inside N r1503 r1505 r1507).isSome = true)) <|
          gd ((!(decide (r1547 < 0))) = true → ((D_plane_Inside N r1503 r1509 r1511).isSome = true)) <|
          bif (decide (r1547 < 0)) || (decide (r1547 < max ((D_plane_Inside N r1503 r1505 r1507).getD 0) ((D_plane_Inside N r1503 r1509 r1511).getD 0))) then (
            some (.inr false))
          else (
            some (.inl ())))
        else (
          some (.inl ())) : Option (Sum Unit Bool)).bind fun o1551 => match o1551 with
        | .inl () => (
          (D_putloglaw07_PlaneConvex_L3 N r1505 r1507 r1503 N true 0).bind fun whole1562 =>
          gd ((!(!whole1562)) = true → ((D_plane_Cell N r1503 r1505 r1507).isSome = true)) <|
          some ((!whole1562) || (decide ((D_plane_Cell N r1503 r1505 r1507).getD 0 = 1))))
        | .inr r1550 => (
          some r1550)))

def T9 (N : Nat) : List (Nat × Spec) := [(10, s10 N), (15, s15 N), (21, s21 N), (18, s18 N), (28, s28 N), (17, s17 N), (27, s27 N)]
theorem T9_ok (N : Nat) : TabOK Try.prog (tabOf (T9 N)) := tab_cons (fok10 N) (tab_cons (fok15 N) (tab_cons (fok21 N) (tab_cons (fok18 N) (tab_cons (fok28 N) (tab_cons (fok17 N) (tab_cons (fok27 N) (tab_nil)))))))

section
attribute [local go_sem] T9 s10 s15 s21 s18 s28 s17 s27 e_ii de_ii rb_ii d_ii rowAt_zero rowAt_succ List.set_cons_succ List.isEmpty_map List.map_append List.map_eq_nil_iff ne_eq List.length_replicate takeMap dropMap List.length_set Option.isSome_some
theorem D_putloglaw07_PlaneConvex_ok (N : Nat) (x1496 : List (Int × Int)) (px1497 : Int) (py1498 : Int) (qx1499 : Int) (qy1500 : Int) (r : Bool) (h : D_putloglaw07_PlaneConvex N x1496 px1497 py1498 qx1499 qy1500 = some r) : PCall Try.prog 9 [.sl 2 false (x1496.map e_ii) [.i 0, .i 0], .i px1497, .i py1498, .i qx1499, .i qy1500] (.b r) := by
  refine pcall_fn (T9_ok N) _ Try.func9 ok9 nt9 (by simp) fun _ => ?_
  have hS := T9_ok N
  have F := f0
  unfold ac9 rv9
  unfold D_putloglaw07_PlaneConvex at h
  try simp only [gd_some, Option.bind_eq_some_iff] at h
  obtain ⟨r1501, hr1501, h⟩ := h
  replace F := fc hr1501 F
  refine go hS F ?_
  refine cb F (!r1501) (fun hc1 => ?_) (fun hc1 => ?_)
  · replace h := cond_t hc1 h
    obtain rfl := Option.some.inj h
    refine go hS F ?_
    exact fin F
  · replace h := cond_f hc1 h
    try simp only [gd_some, Option.bind_eq_some_iff] at h
    obtain ⟨r1503, hr1503, r1505, hr1505, r1507, hr1507, r1509, hr1509, r1511, hr1511, h⟩ := h
    replace F := fc hr1511 (fc hr1509 (fc hr1507 (fc hr1505 (fc hr1503 F))))
    try simp only [gd_some, Option.bind_eq_some_iff] at h
    obtain ⟨o1530, hL2, h⟩ := h
    refine go hS F ?_
    refine awp_cut (fun z : Bool × Nat => ⟨[(12, .sl 2 false (r1503.map e_ii) [.i 0, .i 0]), (13, .box (505, 5) 0), (14, .box (605, 6) 0), (15, .b z.1)], [(.c (605, 6) 0, .i r1509), (.c (605, 6) 1, .i r1511), (.c (505, 5) 0, .i r1505), (.c (505, 5) 1, .i r1507)], z.2⟩) (fun z => (z.1 : Bool) = o1530) (.x 0) ?_ ?_
    · refine awp_loop (fun y : Nat × Bool × Int × Nat => ⟨[(12, .sl 2 false (r1503.map e_ii) [.i 0, .i 0]), (13, .box (505, 5) 0), (14, .box (605, 6) 0), (15, .b y.2.1), (16, .i y.2.2.1)], [(.c (605, 6) 0, .i r1509), (.c (605, 6) 1, .i r1511), (.c (505, 5) 0, .i r1505), (.c (505, 5) 1, .i r1507)], y.2.2.2⟩) (fun y => D_putloglaw07_PlaneConvex_L1 N r1503 r1505 r1507 y.1 y.2.1 y.2.2.1 = some o1530) (fun y => y.1) (N, true, 0, 8) hL2 ?_ ?_
      · exact leF F
      · rintro ⟨n, left1523, i1524, c1522⟩ hB3
        try simp only at hB3
        obtain _ | n := n
        · exact absurd hB3 (by simp [D_putloglaw07_PlaneConvex_L1])
        rw [D_putloglaw07_PlaneConvex_L1] at hB3
        refine go hS F ?_
        refine cb F (decide (i1524 < (r1503.length : Int))) (fun hc4 => ?_) (fun hc4 => ?_)
        · replace hB3 := cond_t hc4 hB3
          try simp only [gd_some, Option.bind_eq_some_iff] at hB3
          obtain ⟨hv5, hv6, hv7, hv8, hv9, hv10, hB3⟩ := hB3
          simp only [I64] at hv6
          simp only [I64] at hv10
          refine go hS F ?_
          exact backK_n (n, left1523 && (decide (0 < (D_putlogref07_Turn N ((r1503.getD i1524.toNat (0, 0)).1) ((r1503.getD i1524.toNat (0, 0)).2) ((r1503.getD ((i1524 + 1).tmod (r1503.length : Int)).toNat (0, 0)).1) ((r1503.getD ((i1524 + 1).tmod (r1503.length : Int)).toNat (0, 0)).2) r1505 r1507).getD 0)), i1524 + 1, c1522 + 1 + 1 + 1) hB3 (Nat.lt_succ_self _) (leF F)
        · replace hB3 := cond_f hc4 hB3
          refine go hS F ?_
          exact cutK_h (left1523, c1522 + 1) (Option.some.inj hB3) (leF F)
    · rintro ⟨left1529, c1528⟩ hz11
      subst hz11
      try simp only at h
      try simp only [gd_some, Option.bind_eq_some_iff] at h
      obtain ⟨r1531, hr1531, h⟩ := h
      replace F := fc hr1531 F
      refine go hS F ?_
      refine cb F ((left1529 != (decide (r1531 = 1)))) (fun hc12 => ?_) (fun hc12 => ?_)
      · replace h := cond_t hc12 h
        obtain rfl := Option.some.inj h
        refine go hS F ?_
        exact fin F
      · replace h := cond_f hc12 h
        try simp only [gd_some, Option.bind_eq_some_iff] at h
        obtain ⟨hv13, hv14, hv15, hv16, h⟩ := h
        simp only [I64] at hv13
        simp only [I64] at hv14
        try simp only [gd_some, Option.bind_eq_some_iff] at h
        obtain ⟨o1551, hL17, h⟩ := h
        refine go hS F ?_
        refine awp_cut (fun z : Nat => ⟨[(12, .sl 2 false (r1503.map e_ii) [.i 0, .i 0]), (13, .box (505, 5) 0)], [(.c (505, 5) 0, .i r1505), (.c (505, 5) 1, .i r1507)], z⟩) (fun z => (.inl () : Sum Unit Bool) = o1551) .n ?_ ?_
        · refine go hS F ?_
          refine cb F ((((decide ((r1505 + r1509).tmod 2 = 0)) && (decide ((r1507 + r1511).tmod 2 = 0))) && (decide (0 ≤ (D_plane_Inside N r1503 r1505 r1507).getD 0))) && (decide (0 ≤ (D_plane_Inside N r1503 r1509 r1511).getD 0))) (fun hc18 => ?_) (fun hc18 => ?_)
          · replace hL17 := cond_t hc18 hL17
            try simp only [gd_some, Option.bind_eq_some_iff] at hL17
            obtain ⟨hv19, hv20, hv21, hv22, r1547, hr1547, hv23, hv24, hL17⟩ := hL17
            simp only [I64] at hv19
            simp only [I64] at hv20
            simp only [I64] at hv21
            simp only [I64] at hv22
            replace F := fc hr1547 F
            refine go hS F ?_
            refine cb F ((decide (r1547 < 0)) || (decide (r1547 < max ((D_plane_Inside N r1503 r1505 r1507).getD 0) ((D_plane_Inside N r1503 r1509 r1511).getD 0)))) (fun hc25 => ?_) (fun hc25 => ?_)
            · replace hL17 := cond_t hc25 hL17
              obtain rfl := Option.some.inj hL17
              try simp only at h
              obtain rfl := Option.some.inj h
              refine go hS F ?_
              exact fin F
            · replace hL17 := cond_f hc25 hL17
              refine go hS F ?_
              exact cutK_h (c1528 + 1 + 1 + 1 + 1) (Option.some.inj hL17) (leF F)
          · replace hL17 := cond_f hc18 hL17
            refine go hS F ?_
            exact cutK_h (c1528 + 1 + 1) (Option.some.inj hL17) (leF F)
        · rintro c1549 hz26
          subst hz26
          try simp only at h
          try simp only [gd_some, Option.bind_eq_some_iff] at h
          obtain ⟨o1563, hL27, h⟩ := h
          refine go hS F ?_
          refine awp_cut (fun z : Bool × Nat => ⟨[(12, .sl 2 false (r1503.map e_ii) [.i 0, .i 0]), (13, .box (505, 5) 0), (18, .b z.1)], [(.c (505, 5) 0, .i r1505), (.c (505, 5) 1, .i r1507)], z.2⟩) (fun z => (z.1 : Bool) = o1563) (.x 2) ?_ ?_
          · refine awp_loop (fun y : Nat × Bool × Int × Nat => ⟨[(12, .sl 2 false (r1503.map e_ii) [.i 0, .i 0]), (13, .box (505, 5) 0), (18, .b y.2.1), (19, .i y.2.2.1)], [(.c (505, 5) 0, .i r1505), (.c (505, 5) 1, .i r1507)], y.2.2.2⟩) (fun y => D_putloglaw07_PlaneConvex_L3 N r1505 r1507 r1503 y.1 y.2.1 y.2.2.1 = some o1563) (fun y => y.1) (N, true, 0, c1549 + 1 + 1) hL27 ?_ ?_
            · exact leF F
            · rintro ⟨n, whole1556, i1557, c1555⟩ hB28
              try simp only at hB28
              obtain _ | n := n
              · exact absurd hB28 (by simp [D_putloglaw07_PlaneConvex_L3])
              rw [D_putloglaw07_PlaneConvex_L3] at hB28
              refine go hS F ?_
              refine cb F (decide (i1557 < 4)) (fun hc29 => ?_) (fun hc29 => ?_)
              · replace hB28 := cond_t hc29 hB28
                try simp only [gd_some, Option.bind_eq_some_iff] at hB28
                obtain ⟨hv30, hv31, hv32, hv33, hv34, hB28⟩ := hB28
                simp only [I64] at hv30
                simp only [I64] at hv31
                simp only [I64] at hv32
                simp only [I64] at hv34
                refine go hS F ?_
                exact backK_n (n, whole1556 && (decide (0 ≤ (D_plane_Inside N r1503 (r1505 + (i1557.tmod 2)) (r1507 + (i1557.tdiv 2))).getD 0)), i1557 + 1, c1555 + 1 + 1 + 1) hB28 (Nat.lt_succ_self _) (leF F)
              · replace hB28 := cond_f hc29 hB28
                refine go hS F ?_
                exact cutK_h (whole1556, c1555 + 1) (Option.some.inj hB28) (leF F)
          · rintro ⟨whole1562, c1561⟩ hz35
            subst hz35
            try simp only at h
            try simp only [gd_some, Option.bind_eq_some_iff] at h
            obtain ⟨hv36, h⟩ := h
            obtain rfl := Option.some.inj h
            refine go hS F ?_
            exact fin F
end

end Go.Proofs.Ytojciffnkbfbhaa.Am
