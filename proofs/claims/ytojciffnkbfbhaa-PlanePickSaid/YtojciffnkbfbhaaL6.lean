import Derived.Test.YtojciffnkbfbhaaDB
import Derived.Test.YtojciffnkbfbhaaAl4
namespace Go.Proofs.Ytojciffnkbfbhaa.Am
open Go
attribute [local irreducible] awp seqK blkK backK endK inlK restK rngK asgK itK
set_option maxRecDepth 100000
set_option maxHeartbeats 8000000
set_option linter.unusedSimpArgs false
set_option linter.unusedVariables false
/-! putlog/putloglaw07.PlanePick -/
def D_putloglaw07_PlanePick_L3 (N : Nat) (r1868 : List (Int × Int)) (i1894 : Int) : Nat → Int → Int → Int → Option (Int × Int)
  | 0, _, _, _ => none
  | n + 1, n1899, m1900, k1901 =>
    bif decide (k1901 ≤ 40) then (
      (D_plane_Inside N r1868 i1894 k1901).bind fun r1902 =>
      bif decide (r1902 = 1) then (
        gd (I64 (n1899 + 1)) <|
        gd (I64 (k1901 + 1)) <|
        D_putloglaw07_PlanePick_L3 N r1868 i1894 n (n1899 + 1) m1900 (k1901 + 1))
      else (
        bif decide (r1902 = 0) then (
          gd (I64 (m1900 + 1)) <|
          gd (I64 (k1901 + 1)) <|
          D_putloglaw07_PlanePick_L3 N r1868 i1894 n n1899 (m1900 + 1) (k1901 + 1))
        else (
          gd (I64 (k1901 + 1)) <|
          D_putloglaw07_PlanePick_L3 N r1868 i1894 n n1899 m1900 (k1901 + 1))))
    else (
      some (n1899, m1900))

def D_putloglaw07_PlanePick_L1 (N : Nat) (r1868 : List (Int × Int)) : Nat → Int → Int → Int → Option (Int × Int)
  | 0, _, _, _ => none
  | n + 1, n1892, m1893, i1894 =>
    bif decide (i1894 ≤ 40) then (
      (D_putloglaw07_PlanePick_L3 N r1868 i1894 N n1892 m1893 0).bind fun (n1909, m1910) =>
      gd (I64 (i1894 + 1)) <|
      D_putloglaw07_PlanePick_L1 N r1868 n n1909 m1910 (i1894 + 1))
    else (
      some (n1892, m1893))

def D_putloglaw07_PlanePick (N : Nat) (x1865 : List (Int × Int)) : Option Bool :=
  (D_putloglaw07_sane N).bind fun r1866 =>
  bif !r1866 then (
    some false)
  else (
    (D_putlogref07_Made N x1865 0 40).bind fun r1868 =>
    (D_plane_Lattice N r1868).bind fun (r1870, r1871) =>
    (D_putloglaw07_PlanePick_L1 N r1868 N 0 0 0).bind fun (n1917, m1918) =>
    (D_plane_Valid N r1868).bind fun r1920 =>
    gd ((((r1920 && (decide (r1870 = n1917))) && (decide (r1871 = m1918))) && (decide ((r1868.length : Int) ≤ m1918))) = true → ((D_plane_Area2 N r1868).isSome = true)) <|
    gd ((((r1920 && (decide (r1870 = n1917))) && (decide (r1871 = m1918))) && (decide ((r1868.length : Int) ≤ m1918))) = true → (I64 (2 * r1870))) <|
    gd ((((r1920 && (decide (r1870 = n1917))) && (decide (r1871 = m1918))) && (decide ((r1868.length : Int) ≤ m1918))) = true → (I64 ((2 * r1870) + r1871))) <|
    gd ((((r1920 && (decide (r1870 = n1917))) && (decide (r1871 = m1918))) && (decide ((r1868.length : Int) ≤ m1918))) = true → (I64 (((2 * r1870) + r1871) - 2))) <|
    some ((((r1920 && (decide (r1870 = n1917))) && (decide (r1871 = m1918))) && (decide ((r1868.length : Int) ≤ m1918))) && (decide ((D_plane_Area2 N r1868).getD 0 = ((2 * r1870) + r1871) - 2))))

def T4 (N : Nat) : List (Nat × Spec) := [(10, s10 N), (15, s15 N), (16, s16 N), (18, s18 N), (17, s17 N), (19, s19 N), (20, s20 N)]
theorem T4_ok (N : Nat) : TabOK Try.prog (tabOf (T4 N)) := tab_cons (fok10 N) (tab_cons (fok15 N) (tab_cons (fok16 N) (tab_cons (fok18 N) (tab_cons (fok17 N) (tab_cons (fok19 N) (tab_cons (fok20 N) (tab_nil)))))))

section
attribute [local go_sem] T4 s10 s15 s16 s18 s17 s19 s20 e_ii de_ii rb_ii d_ii rowAt_zero rowAt_succ List.set_cons_succ List.isEmpty_map List.map_append List.map_eq_nil_iff ne_eq List.length_replicate takeMap dropMap List.length_set Option.isSome_some
theorem D_putloglaw07_PlanePick_ok (N : Nat) (x1865 : List (Int × Int)) (r : Bool) (h : D_putloglaw07_PlanePick N x1865 = some r) : PCall Try.prog 4 [.sl 2 false (x1865.map e_ii) [.i 0, .i 0]] (.b r) := by
  refine pcall_fn (T4_ok N) _ Try.func4 ok4 nt4 (by simp) fun _ => ?_
  have hS := T4_ok N
  have F := f0
  unfold ac4 rv4
  unfold D_putloglaw07_PlanePick at h
  try simp only [gd_some, Option.bind_eq_some_iff] at h
  obtain ⟨r1866, hr1866, h⟩ := h
  replace F := fc hr1866 F
  refine go hS F ?_
  refine cb F (!r1866) (fun hc1 => ?_) (fun hc1 => ?_)
  · replace h := cond_t hc1 h
    obtain rfl := Option.some.inj h
    refine go hS F ?_
    exact fin F
  · replace h := cond_f hc1 h
    try simp only [gd_some, Option.bind_eq_some_iff] at h
    obtain ⟨r1868, hr1868, ⟨r1870, r1871⟩, hr1871, h⟩ := h
    replace F := fc hr1871 (fc hr1868 F)
    try simp only [gd_some, Option.bind_eq_some_iff] at h
    obtain ⟨o1919, hL2, h⟩ := h
    refine go hS F ?_
    refine awp_cut (fun z : Int × Int × Nat => ⟨[(4, .sl 2 false (r1868.map e_ii) [.i 0, .i 0]), (5, .i r1870), (6, .i r1871), (7, .i z.1), (8, .i z.2.1)], [], z.2.2⟩) (fun z => ((z.1, z.2.1) : Int × Int) = o1919) (.x 0) ?_ ?_
    · refine awp_loop (fun y : Nat × Int × Int × Int × Nat => ⟨[(4, .sl 2 false (r1868.map e_ii) [.i 0, .i 0]), (5, .i r1870), (6, .i r1871), (7, .i y.2.1), (8, .i y.2.2.1), (9, .i y.2.2.2.1)], [], y.2.2.2.2⟩) (fun y => D_putloglaw07_PlanePick_L1 N r1868 y.1 y.2.1 y.2.2.1 y.2.2.2.1 = some o1919) (fun y => y.1) (N, 0, 0, 0, 8) hL2 ?_ ?_
      · exact leF F
      · rintro ⟨n, n1892, m1893, i1894, c1891⟩ hB3
        try simp only at hB3
        obtain _ | n := n
        · exact absurd hB3 (by simp [D_putloglaw07_PlanePick_L1])
        rw [D_putloglaw07_PlanePick_L1] at hB3
        refine go hS F ?_
        refine cb F (decide (i1894 ≤ 40)) (fun hc4 => ?_) (fun hc4 => ?_)
        · replace hB3 := cond_t hc4 hB3
          try simp only [gd_some, Option.bind_eq_some_iff] at hB3
          obtain ⟨o1911, hL5, hB3⟩ := hB3
          refine go hS F ?_
          refine awp_cut (fun z : Int × Int × Nat => ⟨[(4, .sl 2 false (r1868.map e_ii) [.i 0, .i 0]), (5, .i r1870), (6, .i r1871), (7, .i z.1), (8, .i z.2.1), (9, .i i1894)], [], z.2.2⟩) (fun z => ((z.1, z.2.1) : Int × Int) = o1911) (.x 2) ?_ ?_
          · refine awp_loop (fun y : Nat × Int × Int × Int × Nat => ⟨[(4, .sl 2 false (r1868.map e_ii) [.i 0, .i 0]), (5, .i r1870), (6, .i r1871), (7, .i y.2.1), (8, .i y.2.2.1), (9, .i i1894), (10, .i y.2.2.2.1)], [], y.2.2.2.2⟩) (fun y => D_putloglaw07_PlanePick_L3 N r1868 i1894 y.1 y.2.1 y.2.2.1 y.2.2.2.1 = some o1911) (fun y => y.1) (N, n1892, m1893, 0, c1891 + 1 + 1) hL5 ?_ ?_
            · exact leF F
            · rintro ⟨n, n1899, m1900, k1901, c1898⟩ hB6
              try simp only at hB6
              obtain _ | n := n
              · exact absurd hB6 (by simp [D_putloglaw07_PlanePick_L3])
              rw [D_putloglaw07_PlanePick_L3] at hB6
              refine go hS F ?_
              refine cb F (decide (k1901 ≤ 40)) (fun hc7 => ?_) (fun hc7 => ?_)
              · replace hB6 := cond_t hc7 hB6
                try simp only [gd_some, Option.bind_eq_some_iff] at hB6
                obtain ⟨r1902, hr1902, hB6⟩ := hB6
                replace F := fc hr1902 F
                refine go hS F ?_
                refine cb F (decide (r1902 = 1)) (fun hc8 => ?_) (fun hc8 => ?_)
                · replace hB6 := cond_t hc8 hB6
                  try simp only [gd_some, Option.bind_eq_some_iff] at hB6
                  obtain ⟨hv9, hv10, hB6⟩ := hB6
                  simp only [I64] at hv9
                  simp only [I64] at hv10
                  refine go hS F ?_
                  exact backK_n (n, n1899 + 1, m1900, k1901 + 1, c1898 + 1 + 1 + 1 + 1 + 1) hB6 (Nat.lt_succ_self _) (leF F)
                · replace hB6 := cond_f hc8 hB6
                  refine go hS F ?_
                  refine cb F (decide (r1902 = 0)) (fun hc11 => ?_) (fun hc11 => ?_)
                  · replace hB6 := cond_t hc11 hB6
                    try simp only [gd_some, Option.bind_eq_some_iff] at hB6
                    obtain ⟨hv12, hv13, hB6⟩ := hB6
                    simp only [I64] at hv12
                    simp only [I64] at hv13
                    refine go hS F ?_
                    exact backK_n (n, n1899, m1900 + 1, k1901 + 1, c1898 + 1 + 1 + 1 + 1 + 1 + 1) hB6 (Nat.lt_succ_self _) (leF F)
                  · replace hB6 := cond_f hc11 hB6
                    try simp only [gd_some, Option.bind_eq_some_iff] at hB6
                    obtain ⟨hv14, hB6⟩ := hB6
                    simp only [I64] at hv14
                    refine go hS F ?_
                    exact backK_n (n, n1899, m1900, k1901 + 1, c1898 + 1 + 1 + 1 + 1 + 1) hB6 (Nat.lt_succ_self _) (leF F)
              · replace hB6 := cond_f hc7 hB6
                refine go hS F ?_
                exact cutK_h (n1899, m1900, c1898 + 1) (Option.some.inj hB6) (leF F)
          · rintro ⟨n1909, m1910, c1908⟩ hz15
            subst hz15
            try simp only at hB3
            try simp only [gd_some, Option.bind_eq_some_iff] at hB3
            obtain ⟨hv16, hB3⟩ := hB3
            simp only [I64] at hv16
            refine go hS F ?_
            exact backK_n (n, n1909, m1910, i1894 + 1, c1908 + 1) hB3 (Nat.lt_succ_self _) (leF F)
        · replace hB3 := cond_f hc4 hB3
          refine go hS F ?_
          exact cutK_h (n1892, m1893, c1891 + 1) (Option.some.inj hB3) (leF F)
    · rintro ⟨n1917, m1918, c1916⟩ hz17
      subst hz17
      try simp only at h
      try simp only [gd_some, Option.bind_eq_some_iff] at h
      obtain ⟨r1920, hr1920, hv18, hv19, hv20, hv21, h⟩ := h
      simp only [I64] at hv19
      simp only [I64] at hv20
      simp only [I64] at hv21
      replace F := fc hr1920 F
      obtain rfl := Option.some.inj h
      refine go hS F ?_
      exact fin F
end

end Go.Proofs.Ytojciffnkbfbhaa.Am
