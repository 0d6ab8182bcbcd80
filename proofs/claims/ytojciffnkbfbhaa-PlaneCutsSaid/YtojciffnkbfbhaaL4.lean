import Derived.Test.YtojciffnkbfbhaaDB
import Derived.Test.YtojciffnkbfbhaaAl5
namespace Go.Proofs.Ytojciffnkbfbhaa.Am
open Go
attribute [local irreducible] awp seqK blkK backK endK inlK restK rngK asgK itK
set_option maxRecDepth 100000
set_option maxHeartbeats 8000000
set_option linter.unusedSimpArgs false
set_option linter.unusedVariables false
/-! putlog/putloglaw07.PlaneCuts -/
def D_putloglaw07_PlaneCuts (N : Nat) (x1726 : List (Int × Int)) (i1727 : Int) (k1728 : Int) (px1729 : Int) (py1730 : Int) : Option Bool :=
  (D_putloglaw07_sane N).bind fun r1731 =>
  bif !r1731 then (
    some false)
  else (
    (D_putlogref07_Made N x1726 0 40).bind fun r1733 =>
    (D_putloglaw07_pick N i1727 (r1733.length : Int)).bind fun r1735 =>
    (D_putloglaw07_pick N k1728 (r1733.length : Int)).bind fun r1737 =>
    (D_plane_Cut N r1733 r1735 r1737).bind fun (r1739, r1740, r1741) =>
    gd ((!(decide (r1735 = r1737))) = true → (I64 (r1735 + 1))) <|
    gd ((!(decide (r1735 = r1737))) = true → ((r1733.length : Int) ≠ 0)) <|
    gd ((!((decide (r1735 = r1737)) || (decide ((r1735 + 1).tmod (r1733.length : Int) = r1737)))) = true → (I64 (r1737 + 1))) <|
    gd ((!((decide (r1735 = r1737)) || (decide ((r1735 + 1).tmod (r1733.length : Int) = r1737)))) = true → ((r1733.length : Int) ≠ 0)) <|
    bif ((decide (r1735 = r1737)) || (decide ((r1735 + 1).tmod (r1733.length : Int) = r1737))) || (decide ((r1737 + 1).tmod (r1733.length : Int) = r1735)) then (
      some (((decide (r1741 = 70)) && (decide ((r1739.length : Int) = 0))) && (decide ((r1740.length : Int) = 0))))
    else (
      (D_plane_Seam N r1739 r1740).bind fun (((r1743, r1744), (r1745, r1746)), r1747) =>
      gd ((!(decide (r1741 ≠ 0))) = true → ((D_plane_Valid N r1739).isSome = true)) <|
      gd ((!((decide (r1741 ≠ 0)) || (!((D_plane_Valid N r1739).getD false)))) = true → ((D_plane_Valid N r1740).isSome = true)) <|
      gd ((!(((decide (r1741 ≠ 0)) || (!((D_plane_Valid N r1739).getD false))) || (!((D_plane_Valid N r1740).getD false)))) = true → (I64 ((r1739.length : Int) + (r1740.length : Int)))) <|
      gd ((!(((decide (r1741 ≠ 0)) || (!((D_plane_Valid N r1739).getD false))) || (!((D_plane_Valid N r1740).getD false)))) = true → (I64 ((r1733.length : Int) + 2))) <|
      gd ((!((((decide (r1741 ≠ 0)) || (!((D_plane_Valid N r1739).getD false))) || (!((D_plane_Valid N r1740).getD false))) || (decide ((r1739.length : Int) + (r1740.length : Int) ≠ (r1733.length : Int) + 2)))) = true → ((D_plane_Overlap N r1739 r1740).isSome = true)) <|
      gd ((!((((((decide (r1741 ≠ 0)) || (!((D_plane_Valid N r1739).getD false))) || (!((D_plane_Valid N r1740).getD false))) || (decide ((r1739.length : Int) + (r1740.length : Int) ≠ (r1733.length : Int) + 2))) || ((D_plane_Overlap N r1739 r1740).getD false)) || (!r1747))) = true → (0 ≤ r1737 ∧ r1737 < (r1733.length : Int))) <|
      gd ((!((((((decide (r1741 ≠ 0)) || (!((D_plane_Valid N r1739).getD false))) || (!((D_plane_Valid N r1740).getD false))) || (decide ((r1739.length : Int) + (r1740.length : Int) ≠ (r1733.length : Int) + 2))) || ((D_plane_Overlap N r1739 r1740).getD false)) || (!r1747))) = true → (0 ≤ r1735 ∧ r1735 < (r1733.length : Int))) <|
      bif ((((((decide (r1741 ≠ 0)) || (!((D_plane_Valid N r1739).getD false))) || (!((D_plane_Valid N r1740).getD false))) || (decide ((r1739.length : Int) + (r1740.length : Int) ≠ (r1733.length : Int) + 2))) || ((D_plane_Overlap N r1739 r1740).getD false)) || (!r1747)) || (!(decide (r1743 = (r1733.getD r1737.toNat (0, 0)).1) && (decide (r1744 = (r1733.getD r1737.toNat (0, 0)).2) && (decide (r1745 = (r1733.getD r1735.toNat (0, 0)).1) && decide (r1746 = (r1733.getD r1735.toNat (0, 0)).2))))) then (
        some false)
      else (
        (D_plane_Moments N r1739).bind fun (r1749, r1750) =>
        (D_plane_Moments N r1740).bind fun (r1752, r1753) =>
        (D_plane_Moments N r1733).bind fun (r1755, r1756) =>
        (D_plane_Area2 N r1739).bind fun r1758 =>
        (D_plane_Area2 N r1740).bind fun r1760 =>
        gd (I64 (r1758 + r1760)) <|
        (D_plane_Area2 N r1733).bind fun r1762 =>
        gd ((!(decide (r1758 + r1760 ≠ r1762))) = true → (I64 (r1749 + r1752))) <|
        gd ((!((decide (r1758 + r1760 ≠ r1762)) || (decide (r1749 + r1752 ≠ r1755)))) = true → (I64 (r1750 + r1753))) <|
        bif ((decide (r1758 + r1760 ≠ r1762)) || (decide (r1749 + r1752 ≠ r1755))) || (decide (r1750 + r1753 ≠ r1756)) then (
          some false)
        else (
          (D_putloglaw07_pick N px1729 41).bind fun r1764 =>
          (D_putloglaw07_pick N py1730 41).bind fun r1766 =>
          (D_plane_Inside N r1739 r1764 r1766).bind fun r1768 =>
          (D_plane_Inside N r1740 r1764 r1766).bind fun r1770 =>
          bif ((decide (r1768 = 1)) && (decide (0 ≤ r1770))) || ((decide (r1770 = 1)) && (decide (0 ≤ r1768))) then (
            some false)
          else (
            gd (((decide (r1768 = 0)) && (decide (r1770 = 0))) = true → (0 ≤ r1735 ∧ r1735 < (r1733.length : Int))) <|
            gd ((((decide (r1768 = 0)) && (decide (r1770 = 0))) && (!(decide (r1764 = (r1733.getD r1735.toNat (0, 0)).1) && decide (r1766 = (r1733.getD r1735.toNat (0, 0)).2)))) = true → (0 ≤ r1737 ∧ r1737 < (r1733.length : Int))) <|
            (D_plane_Inside N r1733 r1764 r1766).bind fun r1772 =>
            some ((decide (r1772 = 1)) == (((decide (r1768 = 1)) || (decide (r1770 = 1))) || ((((decide (r1768 = 0)) && (decide (r1770 = 0))) && (!(decide (r1764 = (r1733.getD r1735.toNat (0, 0)).1) && decide (r1766 = (r1733.getD r1735.toNat (0, 0)).2)))) && (!(decide (r1764 = (r1733.getD r1737.toNat (0, 0)).1) && decide (r1766 = (r1733.getD r1737.toNat (0, 0)).2)))))))))))

def T5 (N : Nat) : List (Nat × Spec) := [(10, s10 N), (15, s15 N), (21, s21 N), (22, s22 N), (23, s23 N), (19, s19 N), (24, s24 N), (25, s25 N), (20, s20 N), (18, s18 N), (17, s17 N)]
theorem T5_ok (N : Nat) : TabOK Try.prog (tabOf (T5 N)) := tab_cons (fok10 N) (tab_cons (fok15 N) (tab_cons (fok21 N) (tab_cons (fok22 N) (tab_cons (fok23 N) (tab_cons (fok19 N) (tab_cons (fok24 N) (tab_cons (fok25 N) (tab_cons (fok20 N) (tab_cons (fok18 N) (tab_cons (fok17 N) (tab_nil)))))))))))

section
attribute [local go_sem] T5 s10 s15 s21 s22 s23 s19 s24 s25 s20 s18 s17 e_ii de_ii rb_ii d_ii rowAt_zero rowAt_succ List.set_cons_succ List.isEmpty_map List.map_append List.map_eq_nil_iff ne_eq List.length_replicate takeMap dropMap List.length_set Option.isSome_some
theorem D_putloglaw07_PlaneCuts_ok (N : Nat) (x1726 : List (Int × Int)) (i1727 : Int) (k1728 : Int) (px1729 : Int) (py1730 : Int) (r : Bool) (h : D_putloglaw07_PlaneCuts N x1726 i1727 k1728 px1729 py1730 = some r) : PCall Try.prog 5 [.sl 2 false (x1726.map e_ii) [.i 0, .i 0], .i i1727, .i k1728, .i px1729, .i py1730] (.b r) := by
  refine pcall_fn (T5_ok N) _ Try.func5 ok5 nt5 (by simp) fun _ => ?_
  have hS := T5_ok N
  have F := f0
  unfold ac5 rv5
  unfold D_putloglaw07_PlaneCuts at h
  try simp only [gd_some, Option.bind_eq_some_iff] at h
  obtain ⟨r1731, hr1731, h⟩ := h
  replace F := fc hr1731 F
  refine go hS F ?_
  refine cb F (!r1731) (fun hc1 => ?_) (fun hc1 => ?_)
  · replace h := cond_t hc1 h
    obtain rfl := Option.some.inj h
    refine go hS F ?_
    exact fin F
  · replace h := cond_f hc1 h
    try simp only [gd_some, Option.bind_eq_some_iff] at h
    obtain ⟨r1733, hr1733, r1735, hr1735, r1737, hr1737, ⟨r1739, r1740, r1741⟩, hr1741, h⟩ := h
    replace F := fc hr1741 (fc hr1737 (fc hr1735 (fc hr1733 F)))
    try simp only [gd_some, Option.bind_eq_some_iff] at h
    obtain ⟨hv2, hv3, hv4, hv5, h⟩ := h
    simp only [I64] at hv2
    simp only [I64] at hv4
    refine go hS F ?_
    refine cb F (((decide (r1735 = r1737)) || (decide ((r1735 + 1).tmod (r1733.length : Int) = r1737))) || (decide ((r1737 + 1).tmod (r1733.length : Int) = r1735))) (fun hc6 => ?_) (fun hc6 => ?_)
    · replace h := cond_t hc6 h
      obtain rfl := Option.some.inj h
      refine go hS F ?_
      exact fin F
    · replace h := cond_f hc6 h
      try simp only [gd_some, Option.bind_eq_some_iff] at h
      obtain ⟨⟨⟨⟨r1743, r1744⟩, ⟨r1745, r1746⟩⟩, r1747⟩, hr1747, h⟩ := h
      replace F := fc hr1747 F
      try simp only [gd_some, Option.bind_eq_some_iff] at h
      obtain ⟨hv7, hv8, hv9, hv10, hv11, hv12, hv13, h⟩ := h
      simp only [I64] at hv9
      simp only [I64] at hv10
      refine go hS F ?_
      refine cb F (((((((decide (r1741 ≠ 0)) || (!((D_plane_Valid N r1739).getD false))) || (!((D_plane_Valid N r1740).getD false))) || (decide ((r1739.length : Int) + (r1740.length : Int) ≠ (r1733.length : Int) + 2))) || ((D_plane_Overlap N r1739 r1740).getD false)) || (!r1747)) || (!(decide (r1743 = (r1733.getD r1737.toNat (0, 0)).1) && (decide (r1744 = (r1733.getD r1737.toNat (0, 0)).2) && (decide (r1745 = (r1733.getD r1735.toNat (0, 0)).1) && decide (r1746 = (r1733.getD r1735.toNat (0, 0)).2)))))) (fun hc14 => ?_) (fun hc14 => ?_)
      · replace h := cond_t hc14 h
        obtain rfl := Option.some.inj h
        refine go hS F ?_
        exact fin F
      · replace h := cond_f hc14 h
        try simp only [gd_some, Option.bind_eq_some_iff] at h
        obtain ⟨⟨r1749, r1750⟩, hr1750, h⟩ := h
        replace F := fc hr1750 F
        try simp only [gd_some, Option.bind_eq_some_iff] at h
        obtain ⟨⟨r1752, r1753⟩, hr1753, h⟩ := h
        replace F := fc hr1753 F
        try simp only [gd_some, Option.bind_eq_some_iff] at h
        obtain ⟨⟨r1755, r1756⟩, hr1756, h⟩ := h
        replace F := fc hr1756 F
        try simp only [gd_some, Option.bind_eq_some_iff] at h
        obtain ⟨r1758, hr1758, r1760, hr1760, hv15, r1762, hr1762, hv16, hv17, h⟩ := h
        simp only [I64] at hv15
        simp only [I64] at hv16
        simp only [I64] at hv17
        replace F := fc hr1762 (fc hr1760 (fc hr1758 F))
        refine go hS F ?_
        refine cb F (((decide (r1758 + r1760 ≠ r1762)) || (decide (r1749 + r1752 ≠ r1755))) || (decide (r1750 + r1753 ≠ r1756))) (fun hc18 => ?_) (fun hc18 => ?_)
        · replace h := cond_t hc18 h
          obtain rfl := Option.some.inj h
          refine go hS F ?_
          exact fin F
        · replace h := cond_f hc18 h
          try simp only [gd_some, Option.bind_eq_some_iff] at h
          obtain ⟨r1764, hr1764, r1766, hr1766, r1768, hr1768, r1770, hr1770, h⟩ := h
          replace F := fc hr1770 (fc hr1768 (fc hr1766 (fc hr1764 F)))
          refine go hS F ?_
          refine cb F (((decide (r1768 = 1)) && (decide (0 ≤ r1770))) || ((decide (r1770 = 1)) && (decide (0 ≤ r1768)))) (fun hc19 => ?_) (fun hc19 => ?_)
          · replace h := cond_t hc19 h
            obtain rfl := Option.some.inj h
            refine go hS F ?_
            exact fin F
          · replace h := cond_f hc19 h
            try simp only [gd_some, Option.bind_eq_some_iff] at h
            obtain ⟨hv20, hv21, r1772, hr1772, h⟩ := h
            replace F := fc hr1772 F
            obtain rfl := Option.some.inj h
            refine go hS F ?_
            exact fin F
end

end Go.Proofs.Ytojciffnkbfbhaa.Am
