import Derived.Test.YtojciffnkbfbhaaDB
import Derived.Test.YtojciffnkbfbhaaD2
import Derived.Test.YtojciffnkbfbhaaAl7
namespace Go.Proofs.Ytojciffnkbfbhaa.Am
open Go
attribute [local irreducible] awp seqK blkK backK endK inlK restK rngK asgK itK
set_option maxRecDepth 100000
set_option maxHeartbeats 8000000
set_option linter.unusedSimpArgs false
set_option linter.unusedVariables false
/-! putlog/putloglaw07.on -/
def D_putloglaw07_on (N : Nat) (s1774 : Int) (s1775 : Int) (s1776 : Int) (s1777 : Int) (p1778 : Int) (p1779 : Int) : Option Bool :=
  (D_putlogref07_Turn N s1774 s1775 s1776 s1777 p1778 p1779).bind fun r1780 =>
  some (((((decide (r1780 = 0)) && (decide (min s1774 s1776 ≤ p1778))) && (decide (p1778 ≤ max s1774 s1776))) && (decide (min s1775 s1777 ≤ p1779))) && (decide (p1779 ≤ max s1775 s1777)))

def T29 (N : Nat) : List (Nat × Spec) := [(28, s28 N)]
theorem T29_ok (N : Nat) : TabOK Try.prog (tabOf (T29 N)) := tab_cons (fok28 N) (tab_nil)

section
attribute [local go_sem] T29 s28 rowAt_zero rowAt_succ List.set_cons_succ List.isEmpty_map List.map_append List.map_eq_nil_iff ne_eq List.length_replicate takeMap dropMap List.length_set Option.isSome_some
theorem D_putloglaw07_on_ok (N : Nat) (s1774 : Int) (s1775 : Int) (s1776 : Int) (s1777 : Int) (p1778 : Int) (p1779 : Int) (r : Bool) (h : D_putloglaw07_on N s1774 s1775 s1776 s1777 p1778 p1779 = some r) : PCall Try.prog 29 [.agg [.i s1774, .i s1775, .i s1776, .i s1777], .agg [.i p1778, .i p1779]] (.b r) := by
  refine pcall_fn (T29_ok N) _ Try.func29 ok29 nt29 (by simp) fun _ => ?_
  have hS := T29_ok N
  have F := f0
  unfold ac29 rv29
  unfold D_putloglaw07_on at h
  try simp only [gd_some, Option.bind_eq_some_iff] at h
  obtain ⟨r1780, hr1780, h⟩ := h
  replace F := fc hr1780 F
  obtain rfl := Option.some.inj h
  refine go hS F ?_
  exact fin F
end

def s29 (N : Nat) : Spec
  | [.agg [.v (.int .i64 s1774), .v (.int .i64 s1775), .v (.int .i64 s1776), .v (.int .i64 s1777)], .agg [.v (.int .i64 p1778), .v (.int .i64 p1779)]] => some ((D_putloglaw07_on N s1774 s1775 s1776 s1777 p1778 p1779).isSome = true, .b ((D_putloglaw07_on N s1774 s1775 s1776 s1777 p1778 p1779).getD false))
  | _ => none
theorem fok29 (N : Nat) : FOK Try.prog 29 (s29 N) := ⟨of29, by
  intro args vc r h hv
  unfold s29 at h
  split at h
  · cases h
    have hs := hv
    obtain ⟨r, hr⟩ := Option.isSome_iff_exists.1 hs
    have hk := D_putloglaw07_on_ok N _ _ _ _ _ _ r hr
    simp only [hr, Option.getD_some]
    refine PCall.arg ?_ hk
    simp only [wkL, wk, and_true, true_and, Bool.false_eq_true, false_implies, implies_true]
    try trivial
  · simp at h⟩

/-! putlog/putloglaw07.PlaneSeams -/
def D_putloglaw07_PlaneSeams_L3 (N : Nat) (r1787 : List (Int × Int)) (i1820 : Int) (r1788 : List (Int × Int)) (r1794 : Bool) (r1790 : Int) (r1791 : Int) (r1792 : Int) (r1793 : Int) : Nat → Int → Int → Option (Sum Int Bool)
  | 0, _, _ => none
  | n + 1, common1825, k1826 =>
    bif decide (k1826 ≤ 40) then (
      (D_plane_Inside N r1787 i1820 k1826).bind fun r1827 =>
      gd ((decide (r1827 = 0)) = true → ((D_plane_Inside N r1788 i1820 k1826).isSome = true)) <|
      bif (decide (r1827 = 0)) && (decide ((D_plane_Inside N r1788 i1820 k1826).getD 0 = 0)) then (
        gd (I64 (common1825 + 1)) <|
        gd (r1794 = true → ((D_putloglaw07_on N r1790 r1791 r1792 r1793 i1820 k1826).isSome = true)) <|
        bif r1794 && (((decide (r1827 = 0)) && (decide ((D_plane_Inside N r1788 i1820 k1826).getD 0 = 0))) != ((D_putloglaw07_on N r1790 r1791 r1792 r1793 i1820 k1826).getD false)) then (
          some (.inr false))
        else (
          gd (I64 (k1826 + 1)) <|
          D_putloglaw07_PlaneSeams_L3 N r1787 i1820 r1788 r1794 r1790 r1791 r1792 r1793 n (common1825 + 1) (k1826 + 1)))
      else (
        gd (r1794 = true → ((D_putloglaw07_on N r1790 r1791 r1792 r1793 i1820 k1826).isSome = true)) <|
        bif r1794 && (((decide (r1827 = 0)) && (decide ((D_plane_Inside N r1788 i1820 k1826).getD 0 = 0))) != ((D_putloglaw07_on N r1790 r1791 r1792 r1793 i1820 k1826).getD false)) then (
          some (.inr false))
        else (
          gd (I64 (k1826 + 1)) <|
          D_putloglaw07_PlaneSeams_L3 N r1787 i1820 r1788 r1794 r1790 r1791 r1792 r1793 n common1825 (k1826 + 1))))
    else (
      some (.inl common1825))

def D_putloglaw07_PlaneSeams_L1 (N : Nat) (r1787 : List (Int × Int)) (r1788 : List (Int × Int)) (r1794 : Bool) (r1790 : Int) (r1791 : Int) (r1792 : Int) (r1793 : Int) : Nat → Int → Int → Option (Sum Int Bool)
  | 0, _, _ => none
  | n + 1, common1819, i1820 =>
    bif decide (i1820 ≤ 40) then (
      (D_putloglaw07_PlaneSeams_L3 N r1787 i1820 r1788 r1794 r1790 r1791 r1792 r1793 N common1819 0).bind fun o1835 => match o1835 with
        | .inl common1833 => (
          gd (I64 (i1820 + 1)) <|
          D_putloglaw07_PlaneSeams_L1 N r1787 r1788 r1794 r1790 r1791 r1792 r1793 n common1833 (i1820 + 1))
        | .inr r1834 => (
          some (.inr r1834)))
    else (
      some (.inl common1819))

def D_putloglaw07_PlaneSeams_L4 (N : Nat) (r1787 : List (Int × Int)) (r1790 : Int) (r1791 : Int) (r1792 : Int) (r1793 : Int) : Nat → Int → Option (Sum Unit Bool)
  | 0, _ => none
  | n + 1, i1854 =>
    bif decide (i1854 < (r1787.length : Int)) then (
      (nth r1787 i1854).bind fun (x1855, x1856) =>
      (D_putlogref07_Turn N r1790 r1791 r1792 r1793 x1855 x1856).bind fun r1858 =>
      bif decide (r1858 < 0) then (
        some (.inr false))
      else (
        gd (I64 (i1854 + 1)) <|
        D_putloglaw07_PlaneSeams_L4 N r1787 r1790 r1791 r1792 r1793 n (i1854 + 1)))
    else (
      some (.inl ()))

def D_putloglaw07_PlaneSeams (N : Nat) (x1782 : List (Int × Int)) (y1783 : List (Int × Int)) (how1784 : Int) : Option Bool :=
  (D_putloglaw07_sane N).bind fun r1785 =>
  bif !r1785 then (
    some false)
  else (
    (D_putlogref07_Pair N x1782 y1783 how1784).bind fun (r1787, r1788) =>
    (D_plane_Seam N r1787 r1788).bind fun (((r1790, r1791), (r1792, r1793)), r1794) =>
    (D_plane_Seam N r1788 r1787).bind fun (((r1796, r1797), (r1798, r1799)), r1800) =>
    gd ((!((((r1794 != r1800) || (!(decide (r1790 = r1798) && decide (r1791 = r1799)))) || (!(decide (r1792 = r1796) && decide (r1793 = r1797)))) || (r1794 && (decide (r1790 = r1792) && decide (r1791 = r1793))))) = true → ((D_plane_Overlap N r1787 r1788).isSome = true)) <|
    bif ((((r1794 != r1800) || (!(decide (r1790 = r1798) && decide (r1791 = r1799)))) || (!(decide (r1792 = r1796) && decide (r1793 = r1797)))) || (r1794 && (decide (r1790 = r1792) && decide (r1791 = r1793)))) || (((D_plane_Overlap N r1787 r1788).getD false) && r1794) then (
      some false)
    else (
      (D_putloglaw07_PlaneSeams_L1 N r1787 r1788 r1794 r1790 r1791 r1792 r1793 N 0 0).bind fun o1842 => match o1842 with
        | .inl common1840 => (
          bif !r1794 then (
            (D_plane_Overlap N r1787 r1788).bind fun r1845 =>
            some (r1845 || (decide (common1840 ≤ 1))))
          else (
            (D_putloglaw07_PlaneSeams_L4 N r1787 r1790 r1791 r1792 r1793 N 0).bind fun o1864 => match o1864 with
              | .inl () => (
                some r1785)
              | .inr r1863 => (
                some r1863)))
        | .inr r1841 => (
          some r1841)))

def T7 (N : Nat) : List (Nat × Spec) := [(10, s10 N), (11, s11 N), (23, s23 N), (24, s24 N), (18, s18 N), (17, s17 N), (29, s29 N), (28, s28 N)]
theorem T7_ok (N : Nat) : TabOK Try.prog (tabOf (T7 N)) := tab_cons (fok10 N) (tab_cons (fok11 N) (tab_cons (fok23 N) (tab_cons (fok24 N) (tab_cons (fok18 N) (tab_cons (fok17 N) (tab_cons (fok29 N) (tab_cons (fok28 N) (tab_nil))))))))

section
attribute [local go_sem] T7 s10 s11 s23 s24 s18 s17 s29 s28 e_ii de_ii rb_ii d_ii rowAt_zero rowAt_succ List.set_cons_succ List.isEmpty_map List.map_append List.map_eq_nil_iff ne_eq List.length_replicate takeMap dropMap List.length_set Option.isSome_some
theorem D_putloglaw07_PlaneSeams_ok (N : Nat) (x1782 : List (Int × Int)) (y1783 : List (Int × Int)) (how1784 : Int) (r : Bool) (h : D_putloglaw07_PlaneSeams N x1782 y1783 how1784 = some r) : PCall Try.prog 7 [.sl 2 false (x1782.map e_ii) [.i 0, .i 0], .sl 2 false (y1783.map e_ii) [.i 0, .i 0], .i how1784] (.b r) := by
  refine pcall_fn (T7_ok N) _ Try.func7 ok7 nt7 (by simp) fun _ => ?_
  have hS := T7_ok N
  have F := f0
  unfold ac7 rv7
  unfold D_putloglaw07_PlaneSeams at h
  try simp only [gd_some, Option.bind_eq_some_iff] at h
  obtain ⟨r1785, hr1785, h⟩ := h
  replace F := fc hr1785 F
  refine go hS F ?_
  refine cb F (!r1785) (fun hc1 => ?_) (fun hc1 => ?_)
  · replace h := cond_t hc1 h
    obtain rfl := Option.some.inj h
    refine go hS F ?_
    exact fin F
  · replace h := cond_f hc1 h
    try simp only [gd_some, Option.bind_eq_some_iff] at h
    obtain ⟨⟨r1787, r1788⟩, hr1788, h⟩ := h
    replace F := fc hr1788 F
    try simp only [gd_some, Option.bind_eq_some_iff] at h
    obtain ⟨⟨⟨⟨r1790, r1791⟩, ⟨r1792, r1793⟩⟩, r1794⟩, hr1794, h⟩ := h
    replace F := fc hr1794 F
    try simp only [gd_some, Option.bind_eq_some_iff] at h
    obtain ⟨⟨⟨⟨r1796, r1797⟩, ⟨r1798, r1799⟩⟩, r1800⟩, hr1800, h⟩ := h
    replace F := fc hr1800 F
    try simp only [gd_some, Option.bind_eq_some_iff] at h
    obtain ⟨hv2, h⟩ := h
    refine go hS F ?_
    refine cb F (((((r1794 != r1800) || (!(decide (r1790 = r1798) && decide (r1791 = r1799)))) || (!(decide (r1792 = r1796) && decide (r1793 = r1797)))) || (r1794 && (decide (r1790 = r1792) && decide (r1791 = r1793)))) || (((D_plane_Overlap N r1787 r1788).getD false) && r1794)) (fun hc3 => ?_) (fun hc3 => ?_)
    · replace h := cond_t hc3 h
      obtain rfl := Option.some.inj h
      refine go hS F ?_
      exact fin F
    · replace h := cond_f hc3 h
      try simp only [gd_some, Option.bind_eq_some_iff] at h
      obtain ⟨o1842, hL4, h⟩ := h
      refine go hS F ?_
      refine awp_cut (fun z : Int × Nat => ⟨[(7, .b r1785), (8, .sl 2 false (r1787.map e_ii) [.i 0, .i 0]), (9, .sl 2 false (r1788.map e_ii) [.i 0, .i 0]), (10, .box (506, 5) 0), (11, .b r1794), (14, .i z.1)], [(.c (506, 5) 0, .i r1790), (.c (506, 5) 1, .i r1791), (.c (506, 5) 2, .i r1792), (.c (506, 5) 3, .i r1793)], z.2⟩) (fun z => (.inl z.1 : Sum Int Bool) = o1842) (.x 0) ?_ ?_
      · refine awp_loop (fun y : Nat × Int × Int × Nat => ⟨[(7, .b r1785), (8, .sl 2 false (r1787.map e_ii) [.i 0, .i 0]), (9, .sl 2 false (r1788.map e_ii) [.i 0, .i 0]), (10, .box (506, 5) 0), (11, .b r1794), (14, .i y.2.1), (15, .i y.2.2.1)], [(.c (506, 5) 0, .i r1790), (.c (506, 5) 1, .i r1791), (.c (506, 5) 2, .i r1792), (.c (506, 5) 3, .i r1793)], y.2.2.2⟩) (fun y => D_putloglaw07_PlaneSeams_L1 N r1787 r1788 r1794 r1790 r1791 r1792 r1793 y.1 y.2.1 y.2.2.1 = some o1842) (fun y => y.1) (N, 0, 0, 9) hL4 ?_ ?_
        · exact leF F
        · rintro ⟨n, common1819, i1820, c1818⟩ hB5
          try simp only at hB5
          obtain _ | n := n
          · exact absurd hB5 (by simp [D_putloglaw07_PlaneSeams_L1])
          rw [D_putloglaw07_PlaneSeams_L1] at hB5
          refine go hS F ?_
          refine cb F (decide (i1820 ≤ 40)) (fun hc6 => ?_) (fun hc6 => ?_)
          · replace hB5 := cond_t hc6 hB5
            try simp only [gd_some, Option.bind_eq_some_iff] at hB5
            obtain ⟨o1835, hL7, hB5⟩ := hB5
            refine go hS F ?_
            refine awp_cut (fun z : Int × Nat => ⟨[(7, .b r1785), (8, .sl 2 false (r1787.map e_ii) [.i 0, .i 0]), (9, .sl 2 false (r1788.map e_ii) [.i 0, .i 0]), (10, .box (506, 5) 0), (11, .b r1794), (14, .i z.1), (15, .i i1820)], [(.c (506, 5) 0, .i r1790), (.c (506, 5) 1, .i r1791), (.c (506, 5) 2, .i r1792), (.c (506, 5) 3, .i r1793)], z.2⟩) (fun z => (.inl z.1 : Sum Int Bool) = o1835) (.x 2) ?_ ?_
            · refine awp_loop (fun y : Nat × Int × Int × Nat => ⟨[(7, .b r1785), (8, .sl 2 false (r1787.map e_ii) [.i 0, .i 0]), (9, .sl 2 false (r1788.map e_ii) [.i 0, .i 0]), (10, .box (506, 5) 0), (11, .b r1794), (14, .i y.2.1), (15, .i i1820), (16, .i y.2.2.1)], [(.c (506, 5) 0, .i r1790), (.c (506, 5) 1, .i r1791), (.c (506, 5) 2, .i r1792), (.c (506, 5) 3, .i r1793)], y.2.2.2⟩) (fun y => D_putloglaw07_PlaneSeams_L3 N r1787 i1820 r1788 r1794 r1790 r1791 r1792 r1793 y.1 y.2.1 y.2.2.1 = some o1835) (fun y => y.1) (N, common1819, 0, c1818 + 1 + 1) hL7 ?_ ?_
              · exact leF F
              · rintro ⟨n, common1825, k1826, c1824⟩ hB8
                try simp only at hB8
                obtain _ | n := n
                · exact absurd hB8 (by simp [D_putloglaw07_PlaneSeams_L3])
                rw [D_putloglaw07_PlaneSeams_L3] at hB8
                refine go hS F ?_
                refine cb F (decide (k1826 ≤ 40)) (fun hc9 => ?_) (fun hc9 => ?_)
                · replace hB8 := cond_t hc9 hB8
                  try simp only [gd_some, Option.bind_eq_some_iff] at hB8
                  obtain ⟨r1827, hr1827, hv10, hB8⟩ := hB8
                  replace F := fc hr1827 F
                  refine go hS F ?_
                  refine cb F ((decide (r1827 = 0)) && (decide ((D_plane_Inside N r1788 i1820 k1826).getD 0 = 0))) (fun hc11 => ?_) (fun hc11 => ?_)
                  · replace hB8 := cond_t hc11 hB8
                    try simp only [gd_some, Option.bind_eq_some_iff] at hB8
                    obtain ⟨hv12, hv13, hB8⟩ := hB8
                    simp only [I64] at hv12
                    refine go hS F ?_
                    refine cb F (r1794 && (((decide (r1827 = 0)) && (decide ((D_plane_Inside N r1788 i1820 k1826).getD 0 = 0))) != ((D_putloglaw07_on N r1790 r1791 r1792 r1793 i1820 k1826).getD false))) (fun hc14 => ?_) (fun hc14 => ?_)
                    · replace hB8 := cond_t hc14 hB8
                      obtain rfl := Option.some.inj hB8
                      try simp only at hB5
                      obtain rfl := Option.some.inj hB5
                      try simp only at h
                      obtain rfl := Option.some.inj h
                      refine go hS F ?_
                      exact fin F
                    · replace hB8 := cond_f hc14 hB8
                      try simp only [gd_some, Option.bind_eq_some_iff] at hB8
                      obtain ⟨hv15, hB8⟩ := hB8
                      simp only [I64] at hv15
                      refine go hS F ?_
                      exact backK_n (n, common1825 + 1, k1826 + 1, c1824 + 1 + 1 + 1 + 1 + 1 + 1 + 1) hB8 (Nat.lt_succ_self _) (leF F)
                  · replace hB8 := cond_f hc11 hB8
                    try simp only [gd_some, Option.bind_eq_some_iff] at hB8
                    obtain ⟨hv16, hB8⟩ := hB8
                    refine go hS F ?_
                    refine cb F (r1794 && (((decide (r1827 = 0)) && (decide ((D_plane_Inside N r1788 i1820 k1826).getD 0 = 0))) != ((D_putloglaw07_on N r1790 r1791 r1792 r1793 i1820 k1826).getD false))) (fun hc17 => ?_) (fun hc17 => ?_)
                    · replace hB8 := cond_t hc17 hB8
                      obtain rfl := Option.some.inj hB8
                      try simp only at hB5
                      obtain rfl := Option.some.inj hB5
                      try simp only at h
                      obtain rfl := Option.some.inj h
                      refine go hS F ?_
                      exact fin F
                    · replace hB8 := cond_f hc17 hB8
                      try simp only [gd_some, Option.bind_eq_some_iff] at hB8
                      obtain ⟨hv18, hB8⟩ := hB8
                      simp only [I64] at hv18
                      refine go hS F ?_
                      exact backK_n (n, common1825, k1826 + 1, c1824 + 1 + 1 + 1 + 1 + 1 + 1) hB8 (Nat.lt_succ_self _) (leF F)
                · replace hB8 := cond_f hc9 hB8
                  refine go hS F ?_
                  exact cutK_h (common1825, c1824 + 1) (Option.some.inj hB8) (leF F)
            · rintro ⟨common1833, c1832⟩ hz19
              subst hz19
              try simp only at hB5
              try simp only [gd_some, Option.bind_eq_some_iff] at hB5
              obtain ⟨hv20, hB5⟩ := hB5
              simp only [I64] at hv20
              refine go hS F ?_
              exact backK_n (n, common1833, i1820 + 1, c1832 + 1) hB5 (Nat.lt_succ_self _) (leF F)
          · replace hB5 := cond_f hc6 hB5
            refine go hS F ?_
            exact cutK_h (common1819, c1818 + 1) (Option.some.inj hB5) (leF F)
      · rintro ⟨common1840, c1839⟩ hz21
        subst hz21
        try simp only at h
        refine go hS F ?_
        refine cb F (!r1794) (fun hc22 => ?_) (fun hc22 => ?_)
        · replace h := cond_t hc22 h
          try simp only [gd_some, Option.bind_eq_some_iff] at h
          obtain ⟨r1845, hr1845, h⟩ := h
          replace F := fc hr1845 F
          obtain rfl := Option.some.inj h
          refine go hS F ?_
          exact fin F
        · replace h := cond_f hc22 h
          try simp only [gd_some, Option.bind_eq_some_iff] at h
          obtain ⟨o1864, hL23, h⟩ := h
          refine go hS F ?_
          refine awp_cut (fun z : Nat => ⟨[(7, .b r1785)], [], z⟩) (fun z => (.inl () : Sum Unit Bool) = o1864) (.x 4) ?_ ?_
          · refine awp_loop (fun y : Nat × Int × Nat => ⟨[(7, .b r1785), (8, .sl 2 false (r1787.map e_ii) [.i 0, .i 0]), (10, .box (506, 5) 0), (19, .i y.2.1)], [(.c (506, 5) 0, .i r1790), (.c (506, 5) 1, .i r1791), (.c (506, 5) 2, .i r1792), (.c (506, 5) 3, .i r1793)], y.2.2⟩) (fun y => D_putloglaw07_PlaneSeams_L4 N r1787 r1790 r1791 r1792 r1793 y.1 y.2.1 = some o1864) (fun y => y.1) (N, 0, c1839 + 1 + 1) hL23 ?_ ?_
            · exact leF F
            · rintro ⟨n, i1854, c1853⟩ hB24
              try simp only at hB24
              obtain _ | n := n
              · exact absurd hB24 (by simp [D_putloglaw07_PlaneSeams_L4])
              rw [D_putloglaw07_PlaneSeams_L4] at hB24
              refine go hS F ?_
              refine cb F (decide (i1854 < (r1787.length : Int))) (fun hc25 => ?_) (fun hc25 => ?_)
              · replace hB24 := cond_t hc25 hB24
                try simp only [gd_some, Option.bind_eq_some_iff] at hB24
                obtain ⟨⟨x1855, x1856⟩, hn1856, hB24⟩ := hB24
                have hx1856 : r1787.getD i1854.toNat (0, 0) = (x1855, x1856) := ixs hn1856 _
                have hb1856 := (nth_some hn1856).1
                replace F := fc hx1856 F
                try simp only [gd_some, Option.bind_eq_some_iff] at hB24
                obtain ⟨r1858, hr1858, hB24⟩ := hB24
                replace F := fc hr1858 F
                refine go hS F ?_
                refine cb F (decide (r1858 < 0)) (fun hc26 => ?_) (fun hc26 => ?_)
                · replace hB24 := cond_t hc26 hB24
                  obtain rfl := Option.some.inj hB24
                  try simp only at h
                  obtain rfl := Option.some.inj h
                  refine go hS F ?_
                  exact fin F
                · replace hB24 := cond_f hc26 hB24
                  try simp only [gd_some, Option.bind_eq_some_iff] at hB24
                  obtain ⟨hv27, hB24⟩ := hB24
                  simp only [I64] at hv27
                  refine go hS F ?_
                  exact backK_n (n, i1854 + 1, c1853 + 1 + 1 + 1) hB24 (Nat.lt_succ_self _) (leF F)
              · replace hB24 := cond_f hc25 hB24
                refine go hS F ?_
                exact cutK_h (c1853 + 1) (Option.some.inj hB24) (leF F)
          · rintro c1862 hz28
            subst hz28
            try simp only at h
            obtain rfl := Option.some.inj h
            refine go hS F ?_
            exact fin F
end

end Go.Proofs.Ytojciffnkbfbhaa.Am
