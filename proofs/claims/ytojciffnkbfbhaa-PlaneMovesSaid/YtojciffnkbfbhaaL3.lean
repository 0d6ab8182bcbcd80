import Derived.Test.YtojciffnkbfbhaaDB
import Derived.Test.YtojciffnkbfbhaaD2
import Derived.Test.YtojciffnkbfbhaaAl8
namespace Go.Proofs.Ytojciffnkbfbhaa.Am
open Go
attribute [local irreducible] awp seqK blkK backK endK inlK restK rngK asgK itK
set_option maxRecDepth 100000
set_option maxHeartbeats 8000000
set_option linter.unusedSimpArgs false
set_option linter.unusedVariables false
/-! putlog/putloglaw07.PlaneMoves -/
def D_putloglaw07_PlaneMoves_L1 (N : Nat) (r1657 : List (Int × Int)) (r1660 : Int) (r1662 : Int) : Nat → Bool → Int → Option Bool
  | 0, _, _ => none
  | n + 1, off1677, i1678 =>
    bif decide (i1678 < (r1657.length : Int)) then (
      gd ((!off1677) = true → (0 ≤ i1678 ∧ i1678 < (r1657.length : Int))) <|
      gd ((!off1677) = true → (I64 (((r1657.getD i1678.toNat (0, 0)).1) + (r1660 - 40)))) <|
      gd ((!off1677) = true → (0 ≤ i1678 ∧ i1678 < (r1657.length : Int))) <|
      gd ((!off1677) = true → (I64 (((r1657.getD i1678.toNat (0, 0)).2) + (r1662 - 40)))) <|
      gd ((!off1677) = true → ((D_putlogref07_OnMap N (((r1657.getD i1678.toNat (0, 0)).1) + (r1660 - 40)) (((r1657.getD i1678.toNat (0, 0)).2) + (r1662 - 40))).isSome = true)) <|
      gd (I64 (i1678 + 1)) <|
      D_putloglaw07_PlaneMoves_L1 N r1657 r1660 r1662 n (off1677 || (!((D_putlogref07_OnMap N (((r1657.getD i1678.toNat (0, 0)).1) + (r1660 - 40)) (((r1657.getD i1678.toNat (0, 0)).2) + (r1662 - 40))).getD false))) (i1678 + 1))
    else (
      some off1677)

def D_putloglaw07_PlaneMoves (N : Nat) (x1650 : List (Int × Int)) (y1651 : List (Int × Int)) (how1652 : Int) (dx1653 : Int) (dy1654 : Int) : Option Bool :=
  (D_putloglaw07_sane N).bind fun r1655 =>
  bif !r1655 then (
    some false)
  else (
    (D_putlogref07_Pair N x1650 y1651 how1652).bind fun (r1657, r1658) =>
    (D_putloglaw07_pick N dx1653 81).bind fun r1660 =>
    gd (I64 (r1660 - 40)) <|
    (D_putloglaw07_pick N dy1654 81).bind fun r1662 =>
    gd (I64 (r1662 - 40)) <|
    (D_plane_Move N r1657 (r1660 - 40) (r1662 - 40)).bind fun (r1664, r1665) =>
    (D_plane_Move N r1658 (r1660 - 40) (r1662 - 40)).bind fun (r1667, r1668) =>
    (D_putloglaw07_PlaneMoves_L1 N r1657 r1660 r1662 N false 0).bind fun off1683 =>
    bif (off1683 != (decide (r1665 = 70))) || ((decide (r1665 ≠ 0)) && (decide (r1665 ≠ 70))) then (
      some false)
    else (
      bif (decide (r1665 ≠ 0)) || (decide (r1668 ≠ 0)) then (
        some r1655)
      else (
        gd (I64 (-(r1660 - 40))) <|
        gd (I64 (-(r1662 - 40))) <|
        (D_plane_Move N r1664 (-(r1660 - 40)) (-(r1662 - 40))).bind fun (r1685, r1686) =>
        (D_plane_Moments N r1657).bind fun (r1688, r1689) =>
        (D_plane_Moments N r1664).bind fun (r1691, r1692) =>
        (D_plane_Lattice N r1657).bind fun (r1694, r1695) =>
        (D_plane_Lattice N r1664).bind fun (r1697, r1698) =>
        (D_plane_Area2 N r1657).bind fun r1700 =>
        gd ((!(decide (r1686 ≠ 0))) = true → ((D_putlogref07_Same N r1685 r1657).isSome = true)) <|
        gd ((!((decide (r1686 ≠ 0)) || (!((D_putlogref07_Same N r1685 r1657).getD false)))) = true → ((D_plane_Area2 N r1664).isSome = true)) <|
        gd ((!(((decide (r1686 ≠ 0)) || (!((D_putlogref07_Same N r1685 r1657).getD false))) || (decide ((D_plane_Area2 N r1664).getD 0 ≠ r1700)))) = true → (I64 (3 * (r1660 - 40)))) <|
        gd ((!(((decide (r1686 ≠ 0)) || (!((D_putlogref07_Same N r1685 r1657).getD false))) || (decide ((D_plane_Area2 N r1664).getD 0 ≠ r1700)))) = true → (I64 ((3 * (r1660 - 40)) * r1700))) <|
        gd ((!(((decide (r1686 ≠ 0)) || (!((D_putlogref07_Same N r1685 r1657).getD false))) || (decide ((D_plane_Area2 N r1664).getD 0 ≠ r1700)))) = true → (I64 (r1688 + ((3 * (r1660 - 40)) * r1700)))) <|
        gd ((!((((decide (r1686 ≠ 0)) || (!((D_putlogref07_Same N r1685 r1657).getD false))) || (decide ((D_plane_Area2 N r1664).getD 0 ≠ r1700))) || (decide (r1691 ≠ r1688 + ((3 * (r1660 - 40)) * r1700))))) = true → (I64 (3 * (r1662 - 40)))) <|
        gd ((!((((decide (r1686 ≠ 0)) || (!((D_putlogref07_Same N r1685 r1657).getD false))) || (decide ((D_plane_Area2 N r1664).getD 0 ≠ r1700))) || (decide (r1691 ≠ r1688 + ((3 * (r1660 - 40)) * r1700))))) = true → (I64 ((3 * (r1662 - 40)) * r1700))) <|
        gd ((!((((decide (r1686 ≠ 0)) || (!((D_putlogref07_Same N r1685 r1657).getD false))) || (decide ((D_plane_Area2 N r1664).getD 0 ≠ r1700))) || (decide (r1691 ≠ r1688 + ((3 * (r1660 - 40)) * r1700))))) = true → (I64 (r1689 + ((3 * (r1662 - 40)) * r1700)))) <|
        bif ((((((decide (r1686 ≠ 0)) || (!((D_putlogref07_Same N r1685 r1657).getD false))) || (decide ((D_plane_Area2 N r1664).getD 0 ≠ r1700))) || (decide (r1691 ≠ r1688 + ((3 * (r1660 - 40)) * r1700)))) || (decide (r1692 ≠ r1689 + ((3 * (r1662 - 40)) * r1700)))) || (decide (r1694 ≠ r1697))) || (decide (r1695 ≠ r1698)) then (
          some false)
        else (
          (D_plane_Seam N r1657 r1658).bind fun (((r1702, r1703), (r1704, r1705)), r1706) =>
          (D_plane_Seam N r1664 r1667).bind fun (((r1708, r1709), (r1710, r1711)), r1712) =>
          (D_plane_Side N r1657 r1658).bind fun (r1714, r1715, r1716) =>
          (D_plane_Side N r1664 r1667).bind fun (r1718, r1719, r1720) =>
          (D_plane_Overlap N r1657 r1658).bind fun r1722 =>
          (D_plane_Overlap N r1664 r1667).bind fun r1724 =>
          bif ((((r1722 != r1724) || (r1706 != r1712)) || (decide (r1714 ≠ r1718))) || (decide (r1715 ≠ r1719))) || (r1716 != r1720) then (
            some false)
          else (
            gd ((!(!r1706)) = true → (I64 (r1702 + (r1660 - 40)))) <|
            gd ((!(!r1706)) = true → (I64 (r1703 + (r1662 - 40)))) <|
            gd ((!(!r1706)) = true → (I64 (r1704 + (r1660 - 40)))) <|
            gd ((!(!r1706)) = true → (I64 (r1705 + (r1662 - 40)))) <|
            some ((!r1706) || (decide (r1708 = (r1702 + (r1660 - 40))) && (decide (r1709 = (r1703 + (r1662 - 40))) && (decide (r1710 = (r1704 + (r1660 - 40))) && decide (r1711 = (r1705 + (r1662 - 40))))))))))))

def T8 (N : Nat) : List (Nat × Spec) := [(10, s10 N), (11, s11 N), (21, s21 N), (30, s30 N), (18, s18 N), (31, s31 N), (25, s25 N), (16, s16 N), (20, s20 N), (32, s32 N), (23, s23 N), (26, s26 N), (24, s24 N)]
theorem T8_ok (N : Nat) : TabOK Try.prog (tabOf (T8 N)) := tab_cons (fok10 N) (tab_cons (fok11 N) (tab_cons (fok21 N) (tab_cons (fok30 N) (tab_cons (fok18 N) (tab_cons (fok31 N) (tab_cons (fok25 N) (tab_cons (fok16 N) (tab_cons (fok20 N) (tab_cons (fok32 N) (tab_cons (fok23 N) (tab_cons (fok26 N) (tab_cons (fok24 N) (tab_nil)))))))))))))

section
attribute [local go_sem] T8 s10 s11 s21 s30 s18 s31 s25 s16 s20 s32 s23 s26 s24 e_ii de_ii rb_ii d_ii rowAt_zero rowAt_succ List.set_cons_succ List.isEmpty_map List.map_append List.map_eq_nil_iff ne_eq List.length_replicate takeMap dropMap List.length_set Option.isSome_some
theorem D_putloglaw07_PlaneMoves_ok (N : Nat) (x1650 : List (Int × Int)) (y1651 : List (Int × Int)) (how1652 : Int) (dx1653 : Int) (dy1654 : Int) (r : Bool) (h : D_putloglaw07_PlaneMoves N x1650 y1651 how1652 dx1653 dy1654 = some r) : PCall Try.prog 8 [.sl 2 false (x1650.map e_ii) [.i 0, .i 0], .sl 2 false (y1651.map e_ii) [.i 0, .i 0], .i how1652, .i dx1653, .i dy1654] (.b r) := by
  refine pcall_fn (T8_ok N) _ Try.func8 ok8 nt8 (by simp) fun _ => ?_
  have hS := T8_ok N
  have F := f0
  unfold ac8 rv8
  unfold D_putloglaw07_PlaneMoves at h
  try simp only [gd_some, Option.bind_eq_some_iff] at h
  obtain ⟨r1655, hr1655, h⟩ := h
  replace F := fc hr1655 F
  refine go hS F ?_
  refine cb F (!r1655) (fun hc1 => ?_) (fun hc1 => ?_)
  · replace h := cond_t hc1 h
    obtain rfl := Option.some.inj h
    refine go hS F ?_
    exact fin F
  · replace h := cond_f hc1 h
    try simp only [gd_some, Option.bind_eq_some_iff] at h
    obtain ⟨⟨r1657, r1658⟩, hr1658, h⟩ := h
    replace F := fc hr1658 F
    try simp only [gd_some, Option.bind_eq_some_iff] at h
    obtain ⟨r1660, hr1660, hv2, r1662, hr1662, hv3, ⟨r1664, r1665⟩, hr1665, h⟩ := h
    simp only [I64] at hv2
    simp only [I64] at hv3
    replace F := fc hr1665 (fc hr1662 (fc hr1660 F))
    try simp only [gd_some, Option.bind_eq_some_iff] at h
    obtain ⟨⟨r1667, r1668⟩, hr1668, h⟩ := h
    replace F := fc hr1668 F
    try simp only [gd_some, Option.bind_eq_some_iff] at h
    obtain ⟨o1684, hL4, h⟩ := h
    refine go hS F ?_
    refine awp_cut (fun z : Bool × Nat => ⟨[(3, .i (r1660 - 40)), (4, .i (r1662 - 40)), (11, .b r1655), (12, .sl 2 false (r1657.map e_ii) [.i 0, .i 0]), (13, .sl 2 false (r1658.map e_ii) [.i 0, .i 0]), (14, .sl 2 false (r1664.map e_ii) [.i 0, .i 0]), (15, .i r1665), (16, .sl 2 false (r1667.map e_ii) [.i 0, .i 0]), (17, .i r1668), (18, .b z.1)], [], z.2⟩) (fun z => (z.1 : Bool) = o1684) (.x 0) ?_ ?_
    · refine awp_loop (fun y : Nat × Bool × Int × Nat => ⟨[(3, .i (r1660 - 40)), (4, .i (r1662 - 40)), (11, .b r1655), (12, .sl 2 false (r1657.map e_ii) [.i 0, .i 0]), (13, .sl 2 false (r1658.map e_ii) [.i 0, .i 0]), (14, .sl 2 false (r1664.map e_ii) [.i 0, .i 0]), (15, .i r1665), (16, .sl 2 false (r1667.map e_ii) [.i 0, .i 0]), (17, .i r1668), (18, .b y.2.1), (19, .i y.2.2.1)], [], y.2.2.2⟩) (fun y => D_putloglaw07_PlaneMoves_L1 N r1657 r1660 r1662 y.1 y.2.1 y.2.2.1 = some o1684) (fun y => y.1) (N, false, 0, 10) hL4 ?_ ?_
      · exact leF F
      · rintro ⟨n, off1677, i1678, c1676⟩ hB5
        try simp only at hB5
        obtain _ | n := n
        · exact absurd hB5 (by simp [D_putloglaw07_PlaneMoves_L1])
        rw [D_putloglaw07_PlaneMoves_L1] at hB5
        refine go hS F ?_
        refine cb F (decide (i1678 < (r1657.length : Int))) (fun hc6 => ?_) (fun hc6 => ?_)
        · replace hB5 := cond_t hc6 hB5
          try simp only [gd_some, Option.bind_eq_some_iff] at hB5
          obtain ⟨hv7, hv8, hv9, hv10, hv11, hv12, hB5⟩ := hB5
          simp only [I64] at hv8
          simp only [I64] at hv10
          simp only [I64] at hv12
          refine go hS F ?_
          exact backK_n (n, off1677 || (!((D_putlogref07_OnMap N (((r1657.getD i1678.toNat (0, 0)).1) + (r1660 - 40)) (((r1657.getD i1678.toNat (0, 0)).2) + (r1662 - 40))).getD false)), i1678 + 1, c1676 + 1 + 1 + 1) hB5 (Nat.lt_succ_self _) (leF F)
        · replace hB5 := cond_f hc6 hB5
          refine go hS F ?_
          exact cutK_h (off1677, c1676 + 1) (Option.some.inj hB5) (leF F)
    · rintro ⟨off1683, c1682⟩ hz13
      subst hz13
      try simp only at h
      refine go hS F ?_
      refine cb F ((off1683 != (decide (r1665 = 70))) || ((decide (r1665 ≠ 0)) && (decide (r1665 ≠ 70)))) (fun hc14 => ?_) (fun hc14 => ?_)
      · replace h := cond_t hc14 h
        obtain rfl := Option.some.inj h
        refine go hS F ?_
        exact fin F
      · replace h := cond_f hc14 h
        refine go hS F ?_
        refine cb F ((decide (r1665 ≠ 0)) || (decide (r1668 ≠ 0))) (fun hc15 => ?_) (fun hc15 => ?_)
        · replace h := cond_t hc15 h
          obtain rfl := Option.some.inj h
          refine go hS F ?_
          exact fin F
        · replace h := cond_f hc15 h
          try simp only [gd_some, Option.bind_eq_some_iff] at h
          obtain ⟨hv16, hv17, ⟨r1685, r1686⟩, hr1686, h⟩ := h
          simp only [I64] at hv16
          simp only [I64] at hv17
          replace F := fc hr1686 F
          try simp only [gd_some, Option.bind_eq_some_iff] at h
          obtain ⟨⟨r1688, r1689⟩, hr1689, h⟩ := h
          replace F := fc hr1689 F
          try simp only [gd_some, Option.bind_eq_some_iff] at h
          obtain ⟨⟨r1691, r1692⟩, hr1692, h⟩ := h
          replace F := fc hr1692 F
          try simp only [gd_some, Option.bind_eq_some_iff] at h
          obtain ⟨⟨r1694, r1695⟩, hr1695, h⟩ := h
          replace F := fc hr1695 F
          try simp only [gd_some, Option.bind_eq_some_iff] at h
          obtain ⟨⟨r1697, r1698⟩, hr1698, h⟩ := h
          replace F := fc hr1698 F
          try simp only [gd_some, Option.bind_eq_some_iff] at h
          obtain ⟨r1700, hr1700, hv18, hv19, hv20, hv21, hv22, hv23, hv24, hv25, h⟩ := h
          simp only [I64] at hv20
          simp only [I64] at hv21
          simp only [I64] at hv22
          simp only [I64] at hv23
          simp only [I64] at hv24
          simp only [I64] at hv25
          replace F := fc hr1700 F
          refine go hS F ?_
          refine cb F (((((((decide (r1686 ≠ 0)) || (!((D_putlogref07_Same N r1685 r1657).getD false))) || (decide ((D_plane_Area2 N r1664).getD 0 ≠ r1700))) || (decide (r1691 ≠ r1688 + ((3 * (r1660 - 40)) * r1700)))) || (decide (r1692 ≠ r1689 + ((3 * (r1662 - 40)) * r1700)))) || (decide (r1694 ≠ r1697))) || (decide (r1695 ≠ r1698))) (fun hc26 => ?_) (fun hc26 => ?_)
          · replace h := cond_t hc26 h
            obtain rfl := Option.some.inj h
            refine go hS F ?_
            exact fin F
          · replace h := cond_f hc26 h
            try simp only [gd_some, Option.bind_eq_some_iff] at h
            obtain ⟨⟨⟨⟨r1702, r1703⟩, ⟨r1704, r1705⟩⟩, r1706⟩, hr1706, h⟩ := h
            replace F := fc hr1706 F
            try simp only [gd_some, Option.bind_eq_some_iff] at h
            obtain ⟨⟨⟨⟨r1708, r1709⟩, ⟨r1710, r1711⟩⟩, r1712⟩, hr1712, h⟩ := h
            replace F := fc hr1712 F
            try simp only [gd_some, Option.bind_eq_some_iff] at h
            obtain ⟨⟨r1714, r1715, r1716⟩, hr1716, h⟩ := h
            replace F := fc hr1716 F
            try simp only [gd_some, Option.bind_eq_some_iff] at h
            obtain ⟨⟨r1718, r1719, r1720⟩, hr1720, h⟩ := h
            replace F := fc hr1720 F
            try simp only [gd_some, Option.bind_eq_some_iff] at h
            obtain ⟨r1722, hr1722, r1724, hr1724, h⟩ := h
            replace F := fc hr1724 (fc hr1722 F)
            refine go hS F ?_
            refine cb F (((((r1722 != r1724) || (r1706 != r1712)) || (decide (r1714 ≠ r1718))) || (decide (r1715 ≠ r1719))) || (r1716 != r1720)) (fun hc27 => ?_) (fun hc27 => ?_)
            · replace h := cond_t hc27 h
              obtain rfl := Option.some.inj h
              refine go hS F ?_
              exact fin F
            · replace h := cond_f hc27 h
              try simp only [gd_some, Option.bind_eq_some_iff] at h
              obtain ⟨hv28, hv29, hv30, hv31, h⟩ := h
              simp only [I64] at hv28
              simp only [I64] at hv29
              simp only [I64] at hv30
              simp only [I64] at hv31
              obtain rfl := Option.some.inj h
              refine go hS F ?_
              exact fin F
end

end Go.Proofs.Ytojciffnkbfbhaa.Am
