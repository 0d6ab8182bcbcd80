import Derived.Test.YtdabfcbelkjmgaaDoorD6
import Derived.Test.YtdabfcbelkjmgaaDoorD7
import Derived.Test.YtdabfcbelkjmgaaDoorP3
namespace Go.Proofs.YtdabfcbelkjmgaaDoor.Am
open Go
attribute [local irreducible] awp seqK blkK backK endK inlK restK rngK asgK itK
set_option maxRecDepth 100000
set_option maxHeartbeats 8000000
set_option linter.unusedSimpArgs false
set_option linter.unusedVariables false
/-! putlog/plane.Seam -/
def D_plane_Seam_L2 (N : Nat) (y102 : Int) (y103 : Int) (y104 : Int) (y105 : Int) : List ((Int × Int) × (Int × Int)) → Option (Sum Unit ((((Int × Int) × (Int × Int)) × Bool)))
  | [] =>
    some (.inl ())
  | ((y107, y108), (y109, y110)) :: ys =>
    (D_plane_turn N y102 y103 y104 y105 y107 y108).bind fun r111 =>
    gd ((!(decide (r111 ≠ 0))) = true → ((D_plane_turn N y102 y103 y104 y105 y109 y110).isSome = true)) <|
    bif (decide (r111 ≠ 0)) || (decide ((D_plane_turn N y102 y103 y104 y105 y109 y110).getD 0 ≠ 0)) then (
      D_plane_Seam_L2 N y102 y103 y104 y105 ys)
    else (
      (D_plane_common N y102 y103 y104 y105 y107 y108 y109 y110).bind fun ((r113, r114), (r115, r116)) =>
      gd ((!(decide (r113 = r115) && decide (r114 = r116))) = true → ((D_plane_order N r113 r114 r115 r116).isSome = true)) <|
      bif (decide (r113 = r115) && decide (r114 = r116)) || (decide (0 < (D_plane_order N r113 r114 r115 r116).getD 0)) then (
        D_plane_Seam_L2 N y102 y103 y104 y105 ys)
      else (
        (D_plane_order N y102 y103 y104 y105).bind fun r118 =>
        bif decide (0 < r118) then (
          some (.inr (((r115, r116), (r113, r114)), true)))
        else (
          some (.inr (((r113, r114), (r115, r116)), true)))))

def D_plane_Seam_L1 (N : Nat) (b98 : List (Int × Int)) : List ((Int × Int) × (Int × Int)) → Option (Sum Unit ((((Int × Int) × (Int × Int)) × Bool)))
  | [] =>
    some (.inl ())
  | ((y102, y103), (y104, y105)) :: ys =>
    gd (b98.length ≤ 1000000000) <|
    (D_plane_Seam_L2 N y102 y103 y104 y105 (edgesL b98)).bind fun o123 => match o123 with
      | .inl () => (
        D_plane_Seam_L1 N b98 ys)
      | .inr r122 => (
        some (.inr r122))

def D_plane_Seam (N : Nat) (a97 : List (Int × Int)) (b98 : List (Int × Int)) : Option (((Int × Int) × (Int × Int)) × Bool) :=
  (D_plane_Valid N a97).bind fun r99 =>
  gd ((!(!r99)) = true → ((D_plane_Valid N b98).isSome = true)) <|
  gd ((!((!r99) || (!((D_plane_Valid N b98).getD false)))) = true → ((D_plane_Overlap N a97 b98).isSome = true)) <|
  bif ((!r99) || (!((D_plane_Valid N b98).getD false))) || ((D_plane_Overlap N a97 b98).getD false) then (
    some (((0, 0), (0, 0)), false))
  else (
    gd (a97.length ≤ 1000000000) <|
    (D_plane_Seam_L1 N b98 (edgesL a97)).bind fun o127 => match o127 with
      | .inl () => (
        some (((0, 0), (0, 0)), false))
      | .inr r126 => (
        some r126))

def T39 (N : Nat) : List (Nat × Spec) := [(34, s34 N), (41, s41 N), (55, sEdges), (56, s56 N), (58, s58 N), (59, s59 N)]
theorem T39_ok (N : Nat) : TabOK Tryd.prog (tabOf (T39 N)) := tab_cons (fok34 N) (tab_cons (fok41 N) (tab_cons edges_fok (tab_cons (fok56 N) (tab_cons (fok58 N) (tab_cons (fok59 N) (tab_nil))))))

section
attribute [local go_sem] T39 s34 s41 sEdges s56 s58 s59 e_ii de_ii rb_ii d_ii rowAt_zero rowAt_succ List.set_cons_succ List.isEmpty_map List.map_append List.map_eq_nil_iff ne_eq List.length_replicate takeMap dropMap List.length_set Option.isSome_some
theorem D_plane_Seam_ok (N : Nat) (a97 : List (Int × Int)) (b98 : List (Int × Int)) (r : ((Int × Int) × (Int × Int)) × Bool) (h : D_plane_Seam N a97 b98 = some r) : PCall Tryd.prog 39 [.sl 2 false (a97.map e_ii) [.i 0, .i 0], .sl 2 false (b98.map e_ii) [.i 0, .i 0]] (.tup [.agg [.i r.1.1.1, .i r.1.1.2, .i r.1.2.1, .i r.1.2.2], .b r.2]) := by
  refine pcall_fn (T39_ok N) _ Tryd.func39 ok39 nt39 (by simp) fun _ => ?_
  have hS := T39_ok N
  have F := f0
  unfold ac39 rv39
  unfold D_plane_Seam at h
  try simp only [gd_some, Option.bind_eq_some_iff] at h
  obtain ⟨r99, hr99, hv1, hv2, h⟩ := h
  replace F := fc hr99 F
  refine go hS F ?_
  refine cb F (((!r99) || (!((D_plane_Valid N b98).getD false))) || ((D_plane_Overlap N a97 b98).getD false)) (fun hc3 => ?_) (fun hc3 => ?_)
  · replace h := cond_t hc3 h
    obtain rfl := Option.some.inj h
    refine go hS F ?_
    exact fin F
  · replace h := cond_f hc3 h
    try simp only [gd_some, Option.bind_eq_some_iff] at h
    obtain ⟨hv4, h⟩ := h
    try simp only [gd_some, Option.bind_eq_some_iff] at h
    obtain ⟨o127, hL5, h⟩ := h
    refine go hS F ?_
    refine awp_cut (fun z : Nat => ⟨[(4, .box (1, 1) 0), (5, .box (2, 1) 0)], [(.c (2, 1) 0, .b false), (.c (1, 1) 0, .i 0), (.c (1, 1) 1, .i 0), (.c (1, 1) 2, .i 0), (.c (1, 1) 3, .i 0)], z⟩) (fun z => (.inl () : Sum Unit ((((Int × Int) × (Int × Int)) × Bool))) = o127) .n ?_ ?_
    · refine awp_rfunG (fun y : Nat × Nat => ([(.c (2, 1) 0, .b false), (.c (1, 1) 0, .i 0), (.c (1, 1) 1, .i 0), (.c (1, 1) 2, .i 0), (.c (1, 1) 3, .i 0), (.c (0, 1) 0, .sl 2 false (b98.map e_ii) [.i 0, .i 0])], y.2)) (fun y => D_plane_Seam_L1 N b98 ((edgesL a97).drop y.1) = some o127 ∧ y.1 ≤ (edgesL a97).length) (fun y => y.1) (0, 3) (by simp only [go_sem, seval, F] <;> eq_refl) (edges_it a97 false (by assumption)) of69 ⟨rfl, rfl⟩ (by simp) (by intro a ha; obtain ⟨y, _, rfl⟩ := List.mem_map.1 ha; exact ⟨rfl, rfl⟩) ⟨hL5, Nat.zero_le _⟩ rfl ?_ ?_ ?_
      · exact leF F
      · rintro l ⟨n, c101⟩ ⟨hB6, hle⟩ args ha7
        obtain ⟨⟨⟨y102, y103⟩, ⟨y104, y105⟩⟩, hy8, rfl, hlt⟩ := rd_step ha7
        rw [hy8, D_plane_Seam_L1] at hB6
        try simp only at hB6
        clear ha7 hy8
        simp only [edA, putps]
        try simp only [gd_some, Option.bind_eq_some_iff] at hB6
        obtain ⟨hv9, hB6⟩ := hB6
        try simp only [gd_some, Option.bind_eq_some_iff] at hB6
        obtain ⟨o123, hL10, hB6⟩ := hB6
        refine go hS F ?_
        refine awp_cut (fun z : Nat => ⟨[(3, .box (0, 1) 0), (4, .box (1, 1) 0), (5, .box (2, 1) 0), (6, .box (400, c101 + 1) 0), (7, .box (500, c101 + 1 + 1) 0), (27, .clo (.func 69) [] [.ro [.sl 2 false (a97.map e_ii) [.i 0, .i 0]] 0]), (28, .agg [.i y102, .i y103]), (29, .agg [.i y104, .i y105])], [(.c (500, c101 + 1 + 1) 0, .i y104), (.c (500, c101 + 1 + 1) 1, .i y105), (.c (400, c101 + 1) 0, .i y102), (.c (400, c101 + 1) 1, .i y103), (.c (2, 1) 0, .b false), (.c (1, 1) 0, .i 0), (.c (1, 1) 1, .i 0), (.c (1, 1) 2, .i 0), (.c (1, 1) 3, .i 0), (.c (0, 1) 0, .sl 2 false (b98.map e_ii) [.i 0, .i 0])], z⟩) (fun z => (.inl () : Sum Unit ((((Int × Int) × (Int × Int)) × Bool))) = o123) .n ?_ ?_
        · refine awp_rfunN (fun y : Nat × Nat => ([(.c (500, c101 + 1 + 1) 0, .i y104), (.c (500, c101 + 1 + 1) 1, .i y105), (.c (400, c101 + 1) 0, .i y102), (.c (400, c101 + 1) 1, .i y103), (.c (2, 1) 0, .b false), (.c (1, 1) 0, .i 0), (.c (1, 1) 1, .i 0), (.c (1, 1) 2, .i 0), (.c (1, 1) 3, .i 0), (.c (0, 1) 0, .sl 2 false (b98.map e_ii) [.i 0, .i 0])], y.2)) (fun y => D_plane_Seam_L2 N y102 y103 y104 y105 ((edgesL b98).drop y.1) = some o123 ∧ y.1 ≤ (edgesL b98).length) (fun y => y.1) (0, c101 + 1 + 1 + 1) (by simp only [go_sem, seval, F] <;> eq_refl) (edges_it b98 false (by assumption)) of69 ⟨rfl, rfl⟩ (by simp) (by intro a ha; obtain ⟨y, _, rfl⟩ := List.mem_map.1 ha; exact ⟨rfl, rfl⟩) (edges_tr b98 false _) ⟨hL10, Nat.zero_le _⟩ rfl ?_ ?_ ?_
          · exact leF F
          · rintro l ⟨n, c106⟩ ⟨hB11, hle⟩ args ha12
            obtain ⟨⟨⟨y107, y108⟩, ⟨y109, y110⟩⟩, hy13, rfl, hlt⟩ := rd_step ha12
            rw [hy13, D_plane_Seam_L2] at hB11
            try simp only at hB11
            clear ha12 hy13
            simp only [edA, putps]
            try simp only [gd_some, Option.bind_eq_some_iff] at hB11
            obtain ⟨r111, hr111, hv14, hB11⟩ := hB11
            replace F := fc hr111 F
            refine go hS F ?_
            refine cb F ((decide (r111 ≠ 0)) || (decide ((D_plane_turn N y102 y103 y104 y105 y109 y110).getD 0 ≠ 0))) (fun hc15 => ?_) (fun hc15 => ?_)
            · replace hB11 := cond_t hc15 hB11
              refine go hS F ?_
              exact rngK_n (n + 1, c106 + 1 + 1 + 1) ⟨hB11, by omega⟩ rfl (leF F)
            · replace hB11 := cond_f hc15 hB11
              try simp only [gd_some, Option.bind_eq_some_iff] at hB11
              obtain ⟨⟨⟨r113, r114⟩, ⟨r115, r116⟩⟩, hr116, hB11⟩ := hB11
              replace F := fc hr116 F
              try simp only [gd_some, Option.bind_eq_some_iff] at hB11
              obtain ⟨hv16, hB11⟩ := hB11
              refine go hS F ?_
              refine cb F ((decide (r113 = r115) && decide (r114 = r116)) || (decide (0 < (D_plane_order N r113 r114 r115 r116).getD 0))) (fun hc17 => ?_) (fun hc17 => ?_)
              · replace hB11 := cond_t hc17 hB11
                refine go hS F ?_
                exact rngK_n (n + 1, c106 + 1 + 1 + 1 + 1 + 1) ⟨hB11, by omega⟩ rfl (leF F)
              · replace hB11 := cond_f hc17 hB11
                try simp only [gd_some, Option.bind_eq_some_iff] at hB11
                obtain ⟨r118, hr118, hB11⟩ := hB11
                replace F := fc hr118 F
                refine go hS F ?_
                refine cb F (decide (0 < r118)) (fun hc18 => ?_) (fun hc18 => ?_)
                · replace hB11 := cond_t hc18 hB11
                  obtain rfl := Option.some.inj hB11
                  try simp only at hB6
                  obtain rfl := Option.some.inj hB6
                  try simp only at h
                  obtain rfl := Option.some.inj h
                  refine go hS F ?_
                  exact fin F
                · replace hB11 := cond_f hc18 hB11
                  obtain rfl := Option.some.inj hB11
                  try simp only at hB6
                  obtain rfl := Option.some.inj hB6
                  try simp only at h
                  obtain rfl := Option.some.inj h
                  refine go hS F ?_
                  exact fin F
          · rintro ⟨n, c106⟩ ⟨hB11, hle⟩ hk
            rw [show n = _ from hk, drop_all, D_plane_Seam_L2] at hB11
            try simp only at hB11
            refine go hS F ?_
            exact cutK_h (c106) (Option.some.inj hB11) (leF F)
        · rintro c121 hz19
          subst hz19
          try simp only at hB6
          refine go hS F ?_
          exact rngK_n (n + 1, c121) ⟨hB6, by omega⟩ rfl (leF F)
      · rintro ⟨n, c101⟩ ⟨hB6, hle⟩ hk
        rw [show n = _ from hk, drop_all, D_plane_Seam_L1] at hB6
        try simp only at hB6
        refine go hS F ?_
        exact cutK_h (c101) (Option.some.inj hB6) (leF F)
    · rintro c125 hz20
      subst hz20
      try simp only at h
      obtain rfl := Option.some.inj h
      refine go hS F ?_
      exact fin F
end

def s39 (N : Nat) : Spec
  | [.sl ya97 _ a97 _, .sl yb98 _ b98 _] => some (((ya97 = 2 ∨ a97 = []) ∧ a97 = (a97.map d_ii).map e_ii) ∧ ((yb98 = 2 ∨ b98 = []) ∧ b98 = (b98.map d_ii).map e_ii) ∧ (D_plane_Seam N (a97.map d_ii) (b98.map d_ii)).isSome = true, .tup [.agg [.i (((((D_plane_Seam N (a97.map d_ii) (b98.map d_ii)).getD (((0, 0), (0, 0)), false)).1).1).1), .i (((((D_plane_Seam N (a97.map d_ii) (b98.map d_ii)).getD (((0, 0), (0, 0)), false)).1).1).2), .i (((((D_plane_Seam N (a97.map d_ii) (b98.map d_ii)).getD (((0, 0), (0, 0)), false)).1).2).1), .i (((((D_plane_Seam N (a97.map d_ii) (b98.map d_ii)).getD (((0, 0), (0, 0)), false)).1).2).2)], .b (((D_plane_Seam N (a97.map d_ii) (b98.map d_ii)).getD (((0, 0), (0, 0)), false)).2)])
  | _ => none
theorem fok39 (N : Nat) : FOK Tryd.prog 39 (s39 N) := ⟨of39, by
  intro args vc r h hv
  unfold s39 at h
  split at h
  · cases h
    obtain ⟨⟨hy0, hr0⟩, ⟨hy1, hr1⟩, hs⟩ := hv
    obtain ⟨r, hr⟩ := Option.isSome_iff_exists.1 hs
    have hk := D_plane_Seam_ok N _ _ r hr
    simp only [hr, Option.getD_some]
    refine PCall.arg ?_ hk
    simp only [wkL, wk, and_true, true_and, Bool.false_eq_true, false_implies, implies_true]
    repeat' (first | exact True.intro | assumption | apply And.intro)
  · simp at h⟩
end Go.Proofs.YtdabfcbelkjmgaaDoor.Am
