import Derived.Test.YtdabfcbelkjmgaaDoorP2
namespace Go.Proofs.YtdabfcbelkjmgaaDoor.Am
open Go
attribute [local irreducible] awp seqK blkK backK endK inlK restK rngK asgK itK
set_option maxRecDepth 100000
set_option maxHeartbeats 8000000
set_option linter.unusedSimpArgs false
set_option linter.unusedVariables false
/-! slices.MaxFunc   putlog/api.Place putlog/api.Place  -/
def D_slices_MaxFunc_api_Place_api_Place_v59_L1 (N : Nat) (x1 : List (Int × Int)) : Nat → Int → Int → Int → Option (Int × Int)
  | 0, _, _, _ => none
  | n + 1, i12, m13, m14 =>
    bif decide (i12 < (x1.length : Int)) then (
      (nth x1 i12).bind fun (x15, x16) =>
      (D_plane_order N x15 x16 m13 m14).bind fun r18 =>
      bif decide (0 < r18) then (
        gd (I64 (i12 + 1)) <|
        D_slices_MaxFunc_api_Place_api_Place_v59_L1 N x1 n (i12 + 1) x15 x16)
      else (
        gd (I64 (i12 + 1)) <|
        D_slices_MaxFunc_api_Place_api_Place_v59_L1 N x1 n (i12 + 1) m13 m14))
    else (
      some (m13, m14))

def D_slices_MaxFunc_api_Place_api_Place_v59 (N : Nat) (x1 : List (Int × Int)) : Option (Int × Int) :=
  gd ((decide ((x1.length : Int) < 1)) = false) <|
  (nth x1 0).bind fun (x2, x3) =>
  (D_slices_MaxFunc_api_Place_api_Place_v59_L1 N x1 N 1 x2 x3).bind fun (m25, m26) =>
  some (m25, m26)

def T71_v59 (N : Nat) : List (Nat × Spec) := [(59, s59 N)]
theorem T71_v59_ok (N : Nat) : TabOK Tryd.prog (tabOf (T71_v59 N)) := tab_cons (fok59 N) (tab_nil)

section
attribute [local go_sem] T71_v59 s59 e_ii de_ii rb_ii d_ii rowAt_zero rowAt_succ List.set_cons_succ List.isEmpty_map List.map_append List.map_eq_nil_iff ne_eq List.length_replicate takeMap dropMap List.length_set Option.isSome_some
theorem D_slices_MaxFunc_api_Place_api_Place_v59_ok (N : Nat) (x1 : List (Int × Int)) (r : Int × Int) (h : D_slices_MaxFunc_api_Place_api_Place_v59 N x1 = some r) : PCall Tryd.prog 71 [.sl 2 false (x1.map e_ii) [.i 0, .i 0], .clo (.func 59) [] []] (.agg [.i r.1, .i r.2]) := by
  refine pcall_fn (T71_v59_ok N) _ Tryd.func71 ok71 nt71 (by simp) fun _ => ?_
  have hS := T71_v59_ok N
  have F := f0
  unfold ac71 rv71
  unfold D_slices_MaxFunc_api_Place_api_Place_v59 at h
  try simp only [gd_some, Option.bind_eq_some_iff] at h
  obtain ⟨hv1, h⟩ := h
  refine go hS F ?_
  refine cb F (decide ((x1.length : Int) < 1)) (fun hc2 => ?_) (fun hc2 => ?_)
  · exact Bool.noConfusion (hc2.symm.trans hv1)
  try simp only [gd_some, Option.bind_eq_some_iff] at h
  obtain ⟨⟨x2, x3⟩, hn3, h⟩ := h
  have hx3 : x1.getD 0 (0, 0) = (x2, x3) := ixs hn3 _
  have hb3 := (nth_some hn3).1
  replace F := fc hx3 F
  try simp only [gd_some, Option.bind_eq_some_iff] at h
  obtain ⟨o27, hL3, h⟩ := h
  refine go hS F ?_
  refine awp_cut (fun z : Int × Int × Nat => ⟨[(4, .box (0, 1) 0), (5, .box (303, 3) 0)], [(.c (303, 3) 0, .i z.1), (.c (303, 3) 1, .i z.2.1), (.c (0, 1) 0, .i 0), (.c (0, 1) 1, .i 0)], z.2.2⟩) (fun z => ((z.1, z.2.1) : Int × Int) = o27) (.x 0) ?_ ?_
  · refine awp_loop (fun y : Nat × Int × Int × Int × Nat => ⟨[(0, .sl 2 false (x1.map e_ii) [.i 0, .i 0]), (1, .clo (.func 59) [] []), (4, .box (0, 1) 0), (5, .box (303, 3) 0), (6, .i y.2.1)], [(.c (303, 3) 0, .i y.2.2.1), (.c (303, 3) 1, .i y.2.2.2.1), (.c (0, 1) 0, .i 0), (.c (0, 1) 1, .i 0)], y.2.2.2.2⟩) (fun y => D_slices_MaxFunc_api_Place_api_Place_v59_L1 N x1 y.1 y.2.1 y.2.2.1 y.2.2.2.1 = some o27) (fun y => y.1) (N, 1, x2, x3, 4) hL3 ?_ ?_
    · exact leF F
    · rintro ⟨n, i12, m13, m14, c11⟩ hB4
      try simp only at hB4
      obtain _ | n := n
      · exact absurd hB4 (by simp [D_slices_MaxFunc_api_Place_api_Place_v59_L1])
      rw [D_slices_MaxFunc_api_Place_api_Place_v59_L1] at hB4
      refine go hS F ?_
      refine cb F (decide (i12 < (x1.length : Int))) (fun hc5 => ?_) (fun hc5 => ?_)
      · replace hB4 := cond_t hc5 hB4
        try simp only [gd_some, Option.bind_eq_some_iff] at hB4
        obtain ⟨⟨x15, x16⟩, hn16, hB4⟩ := hB4
        have hx16 : x1.getD i12.toNat (0, 0) = (x15, x16) := ixs hn16 _
        have hb16 := (nth_some hn16).1
        replace F := fc hx16 F
        try simp only [gd_some, Option.bind_eq_some_iff] at hB4
        obtain ⟨r18, hr18, hB4⟩ := hB4
        replace F := fc hr18 F
        refine go hS F ?_
        refine cb F (decide (0 < r18)) (fun hc6 => ?_) (fun hc6 => ?_)
        · replace hB4 := cond_t hc6 hB4
          try simp only [gd_some, Option.bind_eq_some_iff] at hB4
          obtain ⟨hv7, hB4⟩ := hB4
          simp only [I64] at hv7
          refine go hS F ?_
          exact backK_n (n, i12 + 1, x15, x16, c11 + 1 + 1 + 1 + 1) hB4 (Nat.lt_succ_self _) (leF F)
        · replace hB4 := cond_f hc6 hB4
          try simp only [gd_some, Option.bind_eq_some_iff] at hB4
          obtain ⟨hv8, hB4⟩ := hB4
          simp only [I64] at hv8
          refine go hS F ?_
          exact backK_n (n, i12 + 1, m13, m14, c11 + 1 + 1 + 1) hB4 (Nat.lt_succ_self _) (leF F)
      · replace hB4 := cond_f hc5 hB4
        refine go hS F ?_
        exact cutK_h (m13, m14, c11 + 1) (Option.some.inj hB4) (leF F)
  · rintro ⟨m25, m26, c24⟩ hz9
    subst hz9
    try simp only at h
    obtain rfl := Option.some.inj h
    refine go hS F ?_
    exact fin F
end

def s71_v59 (N : Nat) : Spec
  | [.sl yx1 _ x1 _, .clo (.func 59) [] []] => some (((yx1 = 2 ∨ x1 = []) ∧ x1 = (x1.map d_ii).map e_ii) ∧ (D_slices_MaxFunc_api_Place_api_Place_v59 N (x1.map d_ii)).isSome = true, .agg [.i (((D_slices_MaxFunc_api_Place_api_Place_v59 N (x1.map d_ii)).getD (0, 0)).1), .i (((D_slices_MaxFunc_api_Place_api_Place_v59 N (x1.map d_ii)).getD (0, 0)).2)])
  | _ => none
theorem fok71_v59 (N : Nat) : FOK Tryd.prog 71 (s71_v59 N) := ⟨of71, by
  intro args vc r h hv
  unfold s71_v59 at h
  split at h
  · cases h
    obtain ⟨⟨hy0, hr0⟩, hs⟩ := hv
    obtain ⟨r, hr⟩ := Option.isSome_iff_exists.1 hs
    have hk := D_slices_MaxFunc_api_Place_api_Place_v59_ok N _ r hr
    simp only [hr, Option.getD_some]
    refine PCall.arg ?_ hk
    simp only [wkL, wk, and_true, true_and, Bool.false_eq_true, false_implies, implies_true]
    repeat' (first | exact True.intro | assumption | apply And.intro)
  · simp at h⟩

/-! slices.MinFunc   putlog/api.Place putlog/api.Place  -/
def D_slices_MinFunc_api_Place_api_Place_v59_L1 (N : Nat) (x28 : List (Int × Int)) : Nat → Int → Int → Int → Option (Int × Int)
  | 0, _, _, _ => none
  | n + 1, i39, m40, m41 =>
    bif decide (i39 < (x28.length : Int)) then (
      (nth x28 i39).bind fun (x42, x43) =>
      (D_plane_order N x42 x43 m40 m41).bind fun r45 =>
      bif decide (r45 < 0) then (
        gd (I64 (i39 + 1)) <|
        D_slices_MinFunc_api_Place_api_Place_v59_L1 N x28 n (i39 + 1) x42 x43)
      else (
        gd (I64 (i39 + 1)) <|
        D_slices_MinFunc_api_Place_api_Place_v59_L1 N x28 n (i39 + 1) m40 m41))
    else (
      some (m40, m41))

def D_slices_MinFunc_api_Place_api_Place_v59 (N : Nat) (x28 : List (Int × Int)) : Option (Int × Int) :=
  gd ((decide ((x28.length : Int) < 1)) = false) <|
  (nth x28 0).bind fun (x29, x30) =>
  (D_slices_MinFunc_api_Place_api_Place_v59_L1 N x28 N 1 x29 x30).bind fun (m52, m53) =>
  some (m52, m53)

def T72_v59 (N : Nat) : List (Nat × Spec) := [(59, s59 N)]
theorem T72_v59_ok (N : Nat) : TabOK Tryd.prog (tabOf (T72_v59 N)) := tab_cons (fok59 N) (tab_nil)

section
attribute [local go_sem] T72_v59 s59 e_ii de_ii rb_ii d_ii rowAt_zero rowAt_succ List.set_cons_succ List.isEmpty_map List.map_append List.map_eq_nil_iff ne_eq List.length_replicate takeMap dropMap List.length_set Option.isSome_some
theorem D_slices_MinFunc_api_Place_api_Place_v59_ok (N : Nat) (x28 : List (Int × Int)) (r : Int × Int) (h : D_slices_MinFunc_api_Place_api_Place_v59 N x28 = some r) : PCall Tryd.prog 72 [.sl 2 false (x28.map e_ii) [.i 0, .i 0], .clo (.func 59) [] []] (.agg [.i r.1, .i r.2]) := by
  refine pcall_fn (T72_v59_ok N) _ Tryd.func72 ok72 nt72 (by simp) fun _ => ?_
  have hS := T72_v59_ok N
  have F := f0
  unfold ac72 rv72
  unfold D_slices_MinFunc_api_Place_api_Place_v59 at h
  try simp only [gd_some, Option.bind_eq_some_iff] at h
  obtain ⟨hv1, h⟩ := h
  refine go hS F ?_
  refine cb F (decide ((x28.length : Int) < 1)) (fun hc2 => ?_) (fun hc2 => ?_)
  · exact Bool.noConfusion (hc2.symm.trans hv1)
  try simp only [gd_some, Option.bind_eq_some_iff] at h
  obtain ⟨⟨x29, x30⟩, hn30, h⟩ := h
  have hx30 : x28.getD 0 (0, 0) = (x29, x30) := ixs hn30 _
  have hb30 := (nth_some hn30).1
  replace F := fc hx30 F
  try simp only [gd_some, Option.bind_eq_some_iff] at h
  obtain ⟨o54, hL3, h⟩ := h
  refine go hS F ?_
  refine awp_cut (fun z : Int × Int × Nat => ⟨[(4, .box (0, 1) 0), (5, .box (303, 3) 0)], [(.c (303, 3) 0, .i z.1), (.c (303, 3) 1, .i z.2.1), (.c (0, 1) 0, .i 0), (.c (0, 1) 1, .i 0)], z.2.2⟩) (fun z => ((z.1, z.2.1) : Int × Int) = o54) (.x 0) ?_ ?_
  · refine awp_loop (fun y : Nat × Int × Int × Int × Nat => ⟨[(0, .sl 2 false (x28.map e_ii) [.i 0, .i 0]), (1, .clo (.func 59) [] []), (4, .box (0, 1) 0), (5, .box (303, 3) 0), (6, .i y.2.1)], [(.c (303, 3) 0, .i y.2.2.1), (.c (303, 3) 1, .i y.2.2.2.1), (.c (0, 1) 0, .i 0), (.c (0, 1) 1, .i 0)], y.2.2.2.2⟩) (fun y => D_slices_MinFunc_api_Place_api_Place_v59_L1 N x28 y.1 y.2.1 y.2.2.1 y.2.2.2.1 = some o54) (fun y => y.1) (N, 1, x29, x30, 4) hL3 ?_ ?_
    · exact leF F
    · rintro ⟨n, i39, m40, m41, c38⟩ hB4
      try simp only at hB4
      obtain _ | n := n
      · exact absurd hB4 (by simp [D_slices_MinFunc_api_Place_api_Place_v59_L1])
      rw [D_slices_MinFunc_api_Place_api_Place_v59_L1] at hB4
      refine go hS F ?_
      refine cb F (decide (i39 < (x28.length : Int))) (fun hc5 => ?_) (fun hc5 => ?_)
      · replace hB4 := cond_t hc5 hB4
        try simp only [gd_some, Option.bind_eq_some_iff] at hB4
        obtain ⟨⟨x42, x43⟩, hn43, hB4⟩ := hB4
        have hx43 : x28.getD i39.toNat (0, 0) = (x42, x43) := ixs hn43 _
        have hb43 := (nth_some hn43).1
        replace F := fc hx43 F
        try simp only [gd_some, Option.bind_eq_some_iff] at hB4
        obtain ⟨r45, hr45, hB4⟩ := hB4
        replace F := fc hr45 F
        refine go hS F ?_
        refine cb F (decide (r45 < 0)) (fun hc6 => ?_) (fun hc6 => ?_)
        · replace hB4 := cond_t hc6 hB4
          try simp only [gd_some, Option.bind_eq_some_iff] at hB4
          obtain ⟨hv7, hB4⟩ := hB4
          simp only [I64] at hv7
          refine go hS F ?_
          exact backK_n (n, i39 + 1, x42, x43, c38 + 1 + 1 + 1 + 1) hB4 (Nat.lt_succ_self _) (leF F)
        · replace hB4 := cond_f hc6 hB4
          try simp only [gd_some, Option.bind_eq_some_iff] at hB4
          obtain ⟨hv8, hB4⟩ := hB4
          simp only [I64] at hv8
          refine go hS F ?_
          exact backK_n (n, i39 + 1, m40, m41, c38 + 1 + 1 + 1) hB4 (Nat.lt_succ_self _) (leF F)
      · replace hB4 := cond_f hc5 hB4
        refine go hS F ?_
        exact cutK_h (m40, m41, c38 + 1) (Option.some.inj hB4) (leF F)
  · rintro ⟨m52, m53, c51⟩ hz9
    subst hz9
    try simp only at h
    obtain rfl := Option.some.inj h
    refine go hS F ?_
    exact fin F
end

def s72_v59 (N : Nat) : Spec
  | [.sl yx28 _ x28 _, .clo (.func 59) [] []] => some (((yx28 = 2 ∨ x28 = []) ∧ x28 = (x28.map d_ii).map e_ii) ∧ (D_slices_MinFunc_api_Place_api_Place_v59 N (x28.map d_ii)).isSome = true, .agg [.i (((D_slices_MinFunc_api_Place_api_Place_v59 N (x28.map d_ii)).getD (0, 0)).1), .i (((D_slices_MinFunc_api_Place_api_Place_v59 N (x28.map d_ii)).getD (0, 0)).2)])
  | _ => none
theorem fok72_v59 (N : Nat) : FOK Tryd.prog 72 (s72_v59 N) := ⟨of72, by
  intro args vc r h hv
  unfold s72_v59 at h
  split at h
  · cases h
    obtain ⟨⟨hy0, hr0⟩, hs⟩ := hv
    obtain ⟨r, hr⟩ := Option.isSome_iff_exists.1 hs
    have hk := D_slices_MinFunc_api_Place_api_Place_v59_ok N _ r hr
    simp only [hr, Option.getD_some]
    refine PCall.arg ?_ hk
    simp only [wkL, wk, and_true, true_and, Bool.false_eq_true, false_implies, implies_true]
    repeat' (first | exact True.intro | assumption | apply And.intro)
  · simp at h⟩

/-! putlog/plane.common -/
def D_plane_common (N : Nat) (p55 : Int) (p56 : Int) (q57 : Int) (q58 : Int) (r59 : Int) (r60 : Int) (s61 : Int) (s62 : Int) : Option ((Int × Int) × (Int × Int)) :=
  gd (0 ≤ IntKind.wrap .u64 2) <|
  gd (IntKind.wrap .u64 2 ≤ 1000000) <|
  (some ((Lib.bitLen (IntKind.wrap .u64 2 : Int).toNat : Int))).bind fun r63 =>
  (D_plane_order N q57 q58 p55 p56).bind fun r65 =>
  bif decide (r65 < 0) then (
    gd (0 ≤ IntKind.wrap .u64 2) <|
    gd (IntKind.wrap .u64 2 ≤ 1000000) <|
    (D_plane_order N s61 s62 r59 r60).bind fun r68 =>
    bif decide (r68 < 0) then (
      (D_slices_MaxFunc_api_Place_api_Place_v59 N [(q57, q58), (s61, s62)]).bind fun (r70, r71) =>
      (D_slices_MinFunc_api_Place_api_Place_v59 N [(p55, p56), (r59, r60)]).bind fun (r73, r74) =>
      some ((r70, r71), (r73, r74)))
    else (
      (D_slices_MaxFunc_api_Place_api_Place_v59 N [(q57, q58), (r59, r60)]).bind fun (r76, r77) =>
      (D_slices_MinFunc_api_Place_api_Place_v59 N [(p55, p56), (s61, s62)]).bind fun (r79, r80) =>
      some ((r76, r77), (r79, r80))))
  else (
    gd (0 ≤ IntKind.wrap .u64 2) <|
    gd (IntKind.wrap .u64 2 ≤ 1000000) <|
    (D_plane_order N s61 s62 r59 r60).bind fun r83 =>
    bif decide (r83 < 0) then (
      (D_slices_MaxFunc_api_Place_api_Place_v59 N [(p55, p56), (s61, s62)]).bind fun (r85, r86) =>
      (D_slices_MinFunc_api_Place_api_Place_v59 N [(q57, q58), (r59, r60)]).bind fun (r88, r89) =>
      some ((r85, r86), (r88, r89)))
    else (
      (D_slices_MaxFunc_api_Place_api_Place_v59 N [(p55, p56), (r59, r60)]).bind fun (r91, r92) =>
      (D_slices_MinFunc_api_Place_api_Place_v59 N [(q57, q58), (s61, s62)]).bind fun (r94, r95) =>
      some ((r91, r92), (r94, r95))))

def T58 (N : Nat) : List (Nat × Spec) := [(83, sBits), (59, s59 N), (71, s71_v59 N), (72, s72_v59 N)]
theorem T58_ok (N : Nat) : TabOK Tryd.prog (tabOf (T58 N)) := tab_cons bits_fok (tab_cons (fok59 N) (tab_cons (fok71_v59 N) (tab_cons (fok72_v59 N) (tab_nil))))

section
attribute [local go_sem] T58 sBits s59 s71_v59 s72_v59 e_ii de_ii rb_ii d_ii rowAt_zero rowAt_succ List.set_cons_succ List.isEmpty_map List.map_append List.map_eq_nil_iff ne_eq List.length_replicate takeMap dropMap List.length_set Option.isSome_some
theorem D_plane_common_ok (N : Nat) (p55 : Int) (p56 : Int) (q57 : Int) (q58 : Int) (r59 : Int) (r60 : Int) (s61 : Int) (s62 : Int) (r : (Int × Int) × (Int × Int)) (h : D_plane_common N p55 p56 q57 q58 r59 r60 s61 s62 = some r) : PCall Tryd.prog 58 [.agg [.i p55, .i p56], .agg [.i q57, .i q58], .agg [.i r59, .i r60], .agg [.i s61, .i s62]] (.tup [.agg [.i r.1.1, .i r.1.2], .agg [.i r.2.1, .i r.2.2]]) := by
  refine pcall_fn (T58_ok N) _ Tryd.func58 ok58 nt58 (by simp) fun _ => ?_
  have hS := T58_ok N
  have F := f0
  unfold ac58 rv58
  unfold D_plane_common at h
  refine go hS F ?_
  refine awp_inlF hS 1 Tryd.func70 ok70 nt70 of70 rfl (by simp only [go_sem, seval, F] <;> eq_refl) (by simp only [go_sem, seval, F] <;> eq_refl) ?_ rfl (by simp only [go_sem, seval, F] <;> eq_refl) (by simp) fun hb => ?_
  · exact goc hS F
  unfold ac70 rv70
  try simp only [gd_some, Option.bind_eq_some_iff] at h
  obtain ⟨hv1, hv2, r63, hr63, h⟩ := h
  have he63 := Option.some.inj hr63
  replace F := fc he63 F
  refine go hS F ?_
  refine awp_inlF hS 6 Tryd.func82 ok82 nt82 of82 rfl (by simp only [go_sem, seval, F] <;> eq_refl) (by simp only [go_sem, seval, F] <;> eq_refl) ?_ rfl (by simp only [go_sem, seval, F] <;> eq_refl) (by simp) fun hb => ?_
  · exact goc hS F
  unfold ac82 rv82
  refine go hS F ?_
  refine awp_unroll 30 ?_
  refine go hS F ?_
  refine ct F ?_
  refine go hS F ?_
  refine awp_inlF hS 4 Tryd.func87 ok87 nt87 of87 rfl (by simp only [go_sem, seval, F] <;> eq_refl) (by simp only [go_sem, seval, F] <;> eq_refl) ?_ rfl (by simp only [go_sem, seval, F] <;> eq_refl) (by simp) fun hb => ?_
  · exact goc hS F
  unfold ac87 rv87
  refine go hS F ?_
  refine awp_unroll 30 ?_
  refine go hS F ?_
  refine ct F ?_
  refine go hS F ?_
  refine awp_unroll 30 ?_
  try simp only [gd_some, Option.bind_eq_some_iff] at h
  obtain ⟨r65, hr65, h⟩ := h
  replace F := fc hr65 F
  refine go hS F ?_
  refine cb F (decide (r65 < 0)) (fun hc3 => ?_) (fun hc3 => ?_)
  · replace h := cond_t hc3 h
    refine go hS F ?_
    refine cf F ?_
    refine go hS F ?_
    refine cf F ?_
    refine go hS F ?_
    refine awp_inlF hS 1 Tryd.func70 ok70 nt70 of70 rfl (by simp only [go_sem, seval, F] <;> eq_refl) (by simp only [go_sem, seval, F] <;> eq_refl) ?_ rfl (by simp only [go_sem, seval, F] <;> eq_refl) (by simp) fun hb => ?_
    · exact goc hS F
    unfold ac70 rv70
    try simp only [gd_some, Option.bind_eq_some_iff] at h
    obtain ⟨hv4, hv5, h⟩ := h
    refine go hS F ?_
    refine awp_inlF hS 6 Tryd.func82 ok82 nt82 of82 rfl (by simp only [go_sem, seval, F] <;> eq_refl) (by simp only [go_sem, seval, F] <;> eq_refl) ?_ rfl (by simp only [go_sem, seval, F] <;> eq_refl) (by simp) fun hb => ?_
    · exact goc hS F
    unfold ac82 rv82
    refine go hS F ?_
    refine awp_unroll 30 ?_
    refine go hS F ?_
    refine ct F ?_
    refine go hS F ?_
    refine awp_inlF hS 4 Tryd.func87 ok87 nt87 of87 rfl (by simp only [go_sem, seval, F] <;> eq_refl) (by simp only [go_sem, seval, F] <;> eq_refl) ?_ rfl (by simp only [go_sem, seval, F] <;> eq_refl) (by simp) fun hb => ?_
    · exact goc hS F
    unfold ac87 rv87
    refine go hS F ?_
    refine awp_unroll 30 ?_
    refine go hS F ?_
    refine ct F ?_
    refine go hS F ?_
    refine awp_unroll 30 ?_
    try simp only [gd_some, Option.bind_eq_some_iff] at h
    obtain ⟨r68, hr68, h⟩ := h
    replace F := fc hr68 F
    refine go hS F ?_
    refine cb F (decide (r68 < 0)) (fun hc6 => ?_) (fun hc6 => ?_)
    · replace h := cond_t hc6 h
      refine go hS F ?_
      refine cf F ?_
      refine go hS F ?_
      refine cf F ?_
      try simp only [gd_some, Option.bind_eq_some_iff] at h
      obtain ⟨⟨r70, r71⟩, hr71, h⟩ := h
      replace F := fc hr71 F
      try simp only [gd_some, Option.bind_eq_some_iff] at h
      obtain ⟨⟨r73, r74⟩, hr74, h⟩ := h
      replace F := fc hr74 F
      obtain rfl := Option.some.inj h
      refine go hS F ?_
      exact fin F
    · replace h := cond_f hc6 h
      refine go hS F ?_
      refine cf F ?_
      try simp only [gd_some, Option.bind_eq_some_iff] at h
      obtain ⟨⟨r76, r77⟩, hr77, h⟩ := h
      replace F := fc hr77 F
      try simp only [gd_some, Option.bind_eq_some_iff] at h
      obtain ⟨⟨r79, r80⟩, hr80, h⟩ := h
      replace F := fc hr80 F
      obtain rfl := Option.some.inj h
      refine go hS F ?_
      exact fin F
  · replace h := cond_f hc3 h
    refine go hS F ?_
    refine cf F ?_
    refine go hS F ?_
    refine awp_inlF hS 1 Tryd.func70 ok70 nt70 of70 rfl (by simp only [go_sem, seval, F] <;> eq_refl) (by simp only [go_sem, seval, F] <;> eq_refl) ?_ rfl (by simp only [go_sem, seval, F] <;> eq_refl) (by simp) fun hb => ?_
    · exact goc hS F
    unfold ac70 rv70
    try simp only [gd_some, Option.bind_eq_some_iff] at h
    obtain ⟨hv7, hv8, h⟩ := h
    refine go hS F ?_
    refine awp_inlF hS 6 Tryd.func82 ok82 nt82 of82 rfl (by simp only [go_sem, seval, F] <;> eq_refl) (by simp only [go_sem, seval, F] <;> eq_refl) ?_ rfl (by simp only [go_sem, seval, F] <;> eq_refl) (by simp) fun hb => ?_
    · exact goc hS F
    unfold ac82 rv82
    refine go hS F ?_
    refine awp_unroll 30 ?_
    refine go hS F ?_
    refine ct F ?_
    refine go hS F ?_
    refine awp_inlF hS 4 Tryd.func87 ok87 nt87 of87 rfl (by simp only [go_sem, seval, F] <;> eq_refl) (by simp only [go_sem, seval, F] <;> eq_refl) ?_ rfl (by simp only [go_sem, seval, F] <;> eq_refl) (by simp) fun hb => ?_
    · exact goc hS F
    unfold ac87 rv87
    refine go hS F ?_
    refine awp_unroll 30 ?_
    refine go hS F ?_
    refine ct F ?_
    refine go hS F ?_
    refine awp_unroll 30 ?_
    try simp only [gd_some, Option.bind_eq_some_iff] at h
    obtain ⟨r83, hr83, h⟩ := h
    replace F := fc hr83 F
    refine go hS F ?_
    refine cb F (decide (r83 < 0)) (fun hc9 => ?_) (fun hc9 => ?_)
    · replace h := cond_t hc9 h
      refine go hS F ?_
      refine cf F ?_
      refine go hS F ?_
      refine cf F ?_
      try simp only [gd_some, Option.bind_eq_some_iff] at h
      obtain ⟨⟨r85, r86⟩, hr86, h⟩ := h
      replace F := fc hr86 F
      try simp only [gd_some, Option.bind_eq_some_iff] at h
      obtain ⟨⟨r88, r89⟩, hr89, h⟩ := h
      replace F := fc hr89 F
      obtain rfl := Option.some.inj h
      refine go hS F ?_
      exact fin F
    · replace h := cond_f hc9 h
      refine go hS F ?_
      refine cf F ?_
      try simp only [gd_some, Option.bind_eq_some_iff] at h
      obtain ⟨⟨r91, r92⟩, hr92, h⟩ := h
      replace F := fc hr92 F
      try simp only [gd_some, Option.bind_eq_some_iff] at h
      obtain ⟨⟨r94, r95⟩, hr95, h⟩ := h
      replace F := fc hr95 F
      obtain rfl := Option.some.inj h
      refine go hS F ?_
      exact fin F
end

def s58 (N : Nat) : Spec
  | [.agg [.v (.int .i64 p55), .v (.int .i64 p56)], .agg [.v (.int .i64 q57), .v (.int .i64 q58)], .agg [.v (.int .i64 r59), .v (.int .i64 r60)], .agg [.v (.int .i64 s61), .v (.int .i64 s62)]] => some ((D_plane_common N p55 p56 q57 q58 r59 r60 s61 s62).isSome = true, .tup [.agg [.i ((((D_plane_common N p55 p56 q57 q58 r59 r60 s61 s62).getD ((0, 0), (0, 0))).1).1), .i ((((D_plane_common N p55 p56 q57 q58 r59 r60 s61 s62).getD ((0, 0), (0, 0))).1).2)], .agg [.i ((((D_plane_common N p55 p56 q57 q58 r59 r60 s61 s62).getD ((0, 0), (0, 0))).2).1), .i ((((D_plane_common N p55 p56 q57 q58 r59 r60 s61 s62).getD ((0, 0), (0, 0))).2).2)]])
  | _ => none
theorem fok58 (N : Nat) : FOK Tryd.prog 58 (s58 N) := ⟨of58, by
  intro args vc r h hv
  unfold s58 at h
  split at h
  · cases h
    have hs := hv
    obtain ⟨r, hr⟩ := Option.isSome_iff_exists.1 hs
    have hk := D_plane_common_ok N _ _ _ _ _ _ _ _ r hr
    simp only [hr, Option.getD_some]
    refine PCall.arg ?_ hk
    simp only [wkL, wk, and_true, true_and, Bool.false_eq_true, false_implies, implies_true]
    try trivial
  · simp at h⟩
end Go.Proofs.YtdabfcbelkjmgaaDoor.Am
