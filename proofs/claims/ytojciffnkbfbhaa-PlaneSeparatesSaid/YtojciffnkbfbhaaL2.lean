import Derived.Test.YtojciffnkbfbhaaDB
import Derived.Test.YtojciffnkbfbhaaD2
import Derived.Test.YtojciffnkbfbhaaAl6
namespace Go.Proofs.Ytojciffnkbfbhaa.Am
open Go
attribute [local irreducible] awp seqK blkK backK endK inlK restK rngK asgK itK
set_option maxRecDepth 100000
set_option maxHeartbeats 8000000
set_option linter.unusedSimpArgs false
set_option linter.unusedVariables false
/-! putlog/putloglaw07.PlaneSeparates -/
def D_putloglaw07_PlaneSeparates_L2 (N : Nat) (other1618 : List (Int × Int)) (own1617 : List (Int × Int)) (r1575 : Int) : Nat → Int → Option (Sum Unit Bool)
  | 0, _ => none
  | n + 1, k1633 =>
    bif decide (k1633 < (other1618.length : Int)) then (
      (nth own1617 r1575).bind fun (x1634, x1635) =>
      gd (I64 (r1575 + 1)) <|
      gd ((own1617.length : Int) ≠ 0) <|
      (nth own1617 ((r1575 + 1).tmod (own1617.length : Int))).bind fun (x1637, x1638) =>
      (nth other1618 k1633).bind fun (x1640, x1641) =>
      (D_putlogref07_Turn N x1634 x1635 x1637 x1638 x1640 x1641).bind fun r1643 =>
      bif decide (0 < r1643) then (
        some (.inr false))
      else (
        gd (I64 (k1633 + 1)) <|
        D_putloglaw07_PlaneSeparates_L2 N other1618 own1617 r1575 n (k1633 + 1)))
    else (
      some (.inl ()))

def D_putloglaw07_PlaneSeparates (N : Nat) (x1564 : List (Int × Int)) (y1565 : List (Int × Int)) (how1566 : Int) (px1567 : Int) (py1568 : Int) : Option Bool :=
  (D_putloglaw07_sane N).bind fun r1569 =>
  bif !r1569 then (
    some false)
  else (
    (D_putlogref07_Pair N x1564 y1565 how1566).bind fun (r1571, r1572) =>
    (D_plane_Side N r1571 r1572).bind fun (r1574, r1575, r1576) =>
    (D_plane_Overlap N r1571 r1572).bind fun r1578 =>
    gd ((!(r1578 == r1576)) = true → ((D_plane_Overlap N r1571 r1572).isSome = true)) <|
    gd ((!(r1578 == r1576)) = true → ((D_plane_Overlap N r1572 r1571).isSome = true)) <|
    gd ((!((r1578 == r1576) || (((D_plane_Overlap N r1571 r1572).getD false) != ((D_plane_Overlap N r1572 r1571).getD false)))) = true → ((D_plane_Overlap N r1571 r1571).isSome = true)) <|
    bif ((r1578 == r1576) || (((D_plane_Overlap N r1571 r1572).getD false) != ((D_plane_Overlap N r1572 r1571).getD false))) || (!((D_plane_Overlap N r1571 r1571).getD false)) then (
      some false)
    else (
      (D_putloglaw07_pick N px1567 41).bind fun r1580 =>
      (D_putloglaw07_pick N py1568 41).bind fun r1582 =>
      (D_plane_Inside N r1571 r1580 r1582).bind fun r1584 =>
      gd ((decide (r1584 = 1)) = true → ((D_plane_Inside N r1572 r1580 r1582).isSome = true)) <|
      gd ((!(((decide (r1584 = 1)) && (decide ((D_plane_Inside N r1572 r1580 r1582).getD 0 = 1))) && r1576)) = true → ((D_plane_Cell N r1571 r1580 r1582).isSome = true)) <|
      gd ((decide ((D_plane_Cell N r1571 r1580 r1582).getD 0 = 1)) = true → ((D_plane_Cell N r1572 r1580 r1582).isSome = true)) <|
      bif (((decide (r1584 = 1)) && (decide ((D_plane_Inside N r1572 r1580 r1582).getD 0 = 1))) && r1576) || (((decide ((D_plane_Cell N r1571 r1580 r1582).getD 0 = 1)) && (decide ((D_plane_Cell N r1572 r1580 r1582).getD 0 = 1))) && r1576) then (
        some false)
      else (
        bif !r1576 then (
          some ((decide (r1574 = 0)) && (decide (r1575 = 0))))
        else (
          (bif decide (r1574 = 1) then (
              some (r1572, r1571))
            else (
              some (r1571, r1572)) : Option ((List (Int × Int)) × (List (Int × Int)))).bind fun (own1617, other1618) =>
          bif (((decide (r1574 < 0)) || (decide (1 < r1574))) || (decide (r1575 < 0))) || (decide ((own1617.length : Int) ≤ r1575)) then (
            some false)
          else (
            (D_putloglaw07_PlaneSeparates_L2 N other1618 own1617 r1575 N 0).bind fun o1649 => match o1649 with
              | .inl () => (
                some r1569)
              | .inr r1648 => (
                some r1648))))))

def T6 (N : Nat) : List (Nat × Spec) := [(10, s10 N), (11, s11 N), (26, s26 N), (24, s24 N), (21, s21 N), (18, s18 N), (17, s17 N), (27, s27 N), (28, s28 N)]
theorem T6_ok (N : Nat) : TabOK Try.prog (tabOf (T6 N)) := tab_cons (fok10 N) (tab_cons (fok11 N) (tab_cons (fok26 N) (tab_cons (fok24 N) (tab_cons (fok21 N) (tab_cons (fok18 N) (tab_cons (fok17 N) (tab_cons (fok27 N) (tab_cons (fok28 N) (tab_nil)))))))))

section
attribute [local go_sem] T6 s10 s11 s26 s24 s21 s18 s17 s27 s28 e_ii de_ii rb_ii d_ii rowAt_zero rowAt_succ List.set_cons_succ List.isEmpty_map List.map_append List.map_eq_nil_iff ne_eq List.length_replicate takeMap dropMap List.length_set Option.isSome_some
theorem D_putloglaw07_PlaneSeparates_ok (N : Nat) (x1564 : List (Int × Int)) (y1565 : List (Int × Int)) (how1566 : Int) (px1567 : Int) (py1568 : Int) (r : Bool) (h : D_putloglaw07_PlaneSeparates N x1564 y1565 how1566 px1567 py1568 = some r) : PCall Try.prog 6 [.sl 2 false (x1564.map e_ii) [.i 0, .i 0], .sl 2 false (y1565.map e_ii) [.i 0, .i 0], .i how1566, .i px1567, .i py1568] (.b r) := by
  refine pcall_fn (T6_ok N) _ Try.func6 ok6 nt6 (by simp) fun _ => ?_
  have hS := T6_ok N
  have F := f0
  unfold ac6 rv6
  unfold D_putloglaw07_PlaneSeparates at h
  try simp only [gd_some, Option.bind_eq_some_iff] at h
  obtain ⟨r1569, hr1569, h⟩ := h
  replace F := fc hr1569 F
  refine go hS F ?_
  refine cb F (!r1569) (fun hc1 => ?_) (fun hc1 => ?_)
  · replace h := cond_t hc1 h
    obtain rfl := Option.some.inj h
    refine go hS F ?_
    exact fin F
  · replace h := cond_f hc1 h
    try simp only [gd_some, Option.bind_eq_some_iff] at h
    obtain ⟨⟨r1571, r1572⟩, hr1572, h⟩ := h
    replace F := fc hr1572 F
    try simp only [gd_some, Option.bind_eq_some_iff] at h
    obtain ⟨⟨r1574, r1575, r1576⟩, hr1576, h⟩ := h
    replace F := fc hr1576 F
    try simp only [gd_some, Option.bind_eq_some_iff] at h
    obtain ⟨r1578, hr1578, hv2, hv3, hv4, h⟩ := h
    replace F := fc hr1578 F
    refine go hS F ?_
    refine cb F (((r1578 == r1576) || (((D_plane_Overlap N r1571 r1572).getD false) != ((D_plane_Overlap N r1572 r1571).getD false))) || (!((D_plane_Overlap N r1571 r1571).getD false))) (fun hc5 => ?_) (fun hc5 => ?_)
    · replace h := cond_t hc5 h
      obtain rfl := Option.some.inj h
      refine go hS F ?_
      exact fin F
    · replace h := cond_f hc5 h
      try simp only [gd_some, Option.bind_eq_some_iff] at h
      obtain ⟨r1580, hr1580, r1582, hr1582, r1584, hr1584, hv6, hv7, hv8, h⟩ := h
      replace F := fc hr1584 (fc hr1582 (fc hr1580 F))
      refine go hS F ?_
      refine cb F ((((decide (r1584 = 1)) && (decide ((D_plane_Inside N r1572 r1580 r1582).getD 0 = 1))) && r1576) || (((decide ((D_plane_Cell N r1571 r1580 r1582).getD 0 = 1)) && (decide ((D_plane_Cell N r1572 r1580 r1582).getD 0 = 1))) && r1576)) (fun hc9 => ?_) (fun hc9 => ?_)
      · replace h := cond_t hc9 h
        obtain rfl := Option.some.inj h
        refine go hS F ?_
        exact fin F
      · replace h := cond_f hc9 h
        refine go hS F ?_
        refine cb F (!r1576) (fun hc10 => ?_) (fun hc10 => ?_)
        · replace h := cond_t hc10 h
          obtain rfl := Option.some.inj h
          refine go hS F ?_
          exact fin F
        · replace h := cond_f hc10 h
          try simp only [gd_some, Option.bind_eq_some_iff] at h
          obtain ⟨o1619, hL11, h⟩ := h
          refine go hS F ?_
          refine awp_cut (fun z : (List (Int × Int)) × (List (Int × Int)) × Nat => ⟨[(11, .b r1569), (14, .i r1574), (15, .i r1575), (18, .sl 2 false (z.1.map e_ii) [.i 0, .i 0]), (19, .sl 2 false (z.2.1.map e_ii) [.i 0, .i 0])], [], z.2.2⟩) (fun z => ((z.1, z.2.1) : (List (Int × Int)) × (List (Int × Int))) = o1619) .n ?_ ?_
          · refine go hS F ?_
            refine cb F (decide (r1574 = 1)) (fun hc12 => ?_) (fun hc12 => ?_)
            · replace hL11 := cond_t hc12 hL11
              refine go hS F ?_
              exact cutK_h (r1572, r1571, 14) (Option.some.inj hL11) (leF F)
            · replace hL11 := cond_f hc12 hL11
              refine go hS F ?_
              exact cutK_h (r1571, r1572, 12) (Option.some.inj hL11) (leF F)
          · rintro ⟨own1617, other1618, c1616⟩ hz13
            subst hz13
            try simp only at h
            refine go hS F ?_
            refine cb F ((((decide (r1574 < 0)) || (decide (1 < r1574))) || (decide (r1575 < 0))) || (decide ((own1617.length : Int) ≤ r1575))) (fun hc14 => ?_) (fun hc14 => ?_)
            · replace h := cond_t hc14 h
              obtain rfl := Option.some.inj h
              refine go hS F ?_
              exact fin F
            · replace h := cond_f hc14 h
              try simp only [gd_some, Option.bind_eq_some_iff] at h
              obtain ⟨o1649, hL15, h⟩ := h
              refine go hS F ?_
              refine awp_cut (fun z : Nat => ⟨[(11, .b r1569)], [], z⟩) (fun z => (.inl () : Sum Unit Bool) = o1649) (.x 0) ?_ ?_
              · refine awp_loop (fun y : Nat × Int × Nat => ⟨[(11, .b r1569), (15, .i r1575), (18, .sl 2 false (own1617.map e_ii) [.i 0, .i 0]), (19, .sl 2 false (other1618.map e_ii) [.i 0, .i 0]), (20, .i y.2.1)], [], y.2.2⟩) (fun y => D_putloglaw07_PlaneSeparates_L2 N other1618 own1617 r1575 y.1 y.2.1 = some o1649) (fun y => y.1) (N, 0, c1616 + 1 + 1) hL15 ?_ ?_
                · exact leF F
                · rintro ⟨n, k1633, c1632⟩ hB16
                  try simp only at hB16
                  obtain _ | n := n
                  · exact absurd hB16 (by simp [D_putloglaw07_PlaneSeparates_L2])
                  rw [D_putloglaw07_PlaneSeparates_L2] at hB16
                  refine go hS F ?_
                  refine cb F (decide (k1633 < (other1618.length : Int))) (fun hc17 => ?_) (fun hc17 => ?_)
                  · replace hB16 := cond_t hc17 hB16
                    try simp only [gd_some, Option.bind_eq_some_iff] at hB16
                    obtain ⟨⟨x1634, x1635⟩, hn1635, hB16⟩ := hB16
                    have hx1635 : own1617.getD r1575.toNat (0, 0) = (x1634, x1635) := ixs hn1635 _
                    have hb1635 := (nth_some hn1635).1
                    replace F := fc hx1635 F
                    try simp only [gd_some, Option.bind_eq_some_iff] at hB16
                    obtain ⟨hv18, hv19, ⟨x1637, x1638⟩, hn1638, hB16⟩ := hB16
                    simp only [I64] at hv18
                    have hx1638 : own1617.getD ((r1575 + 1).tmod (own1617.length : Int)).toNat (0, 0) = (x1637, x1638) := ixs hn1638 _
                    have hb1638 := (nth_some hn1638).1
                    replace F := fc hx1638 F
                    try simp only [gd_some, Option.bind_eq_some_iff] at hB16
                    obtain ⟨⟨x1640, x1641⟩, hn1641, hB16⟩ := hB16
                    have hx1641 : other1618.getD k1633.toNat (0, 0) = (x1640, x1641) := ixs hn1641 _
                    have hb1641 := (nth_some hn1641).1
                    replace F := fc hx1641 F
                    try simp only [gd_some, Option.bind_eq_some_iff] at hB16
                    obtain ⟨r1643, hr1643, hB16⟩ := hB16
                    replace F := fc hr1643 F
                    refine go hS F ?_
                    refine cb F (decide (0 < r1643)) (fun hc20 => ?_) (fun hc20 => ?_)
                    · replace hB16 := cond_t hc20 hB16
                      obtain rfl := Option.some.inj hB16
                      try simp only at h
                      obtain rfl := Option.some.inj h
                      refine go hS F ?_
                      exact fin F
                    · replace hB16 := cond_f hc20 hB16
                      try simp only [gd_some, Option.bind_eq_some_iff] at hB16
                      obtain ⟨hv21, hB16⟩ := hB16
                      simp only [I64] at hv21
                      refine go hS F ?_
                      exact backK_n (n, k1633 + 1, c1632 + 1 + 1 + 1) hB16 (Nat.lt_succ_self _) (leF F)
                  · replace hB16 := cond_f hc17 hB16
                    refine go hS F ?_
                    exact cutK_h (c1632 + 1) (Option.some.inj hB16) (leF F)
              · rintro c1647 hz22
                subst hz22
                try simp only at h
                obtain rfl := Option.some.inj h
                refine go hS F ?_
                exact fin F
end

end Go.Proofs.Ytojciffnkbfbhaa.Am
