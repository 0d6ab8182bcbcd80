import Derived.Test.YtojciffnkbfbhaaP2
namespace Go.Proofs.Ytojciffnkbfbhaa.Am
open Go
attribute [local irreducible] awp seqK blkK backK endK inlK restK rngK asgK itK
set_option maxRecDepth 100000
set_option maxHeartbeats 8000000
set_option linter.unusedSimpArgs false
set_option linter.unusedVariables false
/-! slices.MaxFunc   putlog/api.Place putlog/api.Place  -/
def D_slices_MaxFunc_api_Place_api_Place_v56_L1 (N : Nat) (x1250 : List (Int × Int)) : Nat → Int → Int → Int → Option (Int × Int)
  | 0, _, _, _ => none
  | n + 1, i1261, m1262, m1263 =>
    bif decide (i1261 < (x1250.length : Int)) then (
      (nth x1250 i1261).bind fun (x1264, x1265) =>
      (D_plane_order N x1264 x1265 m1262 m1263).bind fun r1267 =>
      bif decide (0 < r1267) then (
        gd (I64 (i1261 + 1)) <|
        D_slices_MaxFunc_api_Place_api_Place_v56_L1 N x1250 n (i1261 + 1) x1264 x1265)
      else (
        gd (I64 (i1261 + 1)) <|
        D_slices_MaxFunc_api_Place_api_Place_v56_L1 N x1250 n (i1261 + 1) m1262 m1263))
    else (
      some (m1262, m1263))

def D_slices_MaxFunc_api_Place_api_Place_v56 (N : Nat) (x1250 : List (Int × Int)) : Option (Int × Int) :=
  gd ((decide ((x1250.length : Int) < 1)) = false) <|
  (nth x1250 0).bind fun (x1251, x1252) =>
  (D_slices_MaxFunc_api_Place_api_Place_v56_L1 N x1250 N 1 x1251 x1252).bind fun (m1274, m1275) =>
  some (m1274, m1275)

def T69_v56 (N : Nat) : List (Nat × Spec) := [(56, s56 N)]
theorem T69_v56_ok (N : Nat) : TabOK Try.prog (tabOf (T69_v56 N)) := tab_cons (fok56 N) (tab_nil)

section
attribute [local go_sem] T69_v56 s56 e_ii de_ii rb_ii d_ii rowAt_zero rowAt_succ List.set_cons_succ List.isEmpty_map List.map_append List.map_eq_nil_iff ne_eq List.length_replicate takeMap dropMap List.length_set Option.isSome_some
theorem D_slices_MaxFunc_api_Place_api_Place_v56_ok (N : Nat) (x1250 : List (Int × Int)) (r : Int × Int) (h : D_slices_MaxFunc_api_Place_api_Place_v56 N x1250 = some r) : PCall Try.prog 69 [.sl 2 false (x1250.map e_ii) [.i 0, .i 0], .clo (.func 56) [] []] (.agg [.i r.1, .i r.2]) := by
  refine pcall_fn (T69_v56_ok N) _ Try.func69 ok69 nt69 (by simp) fun _ => ?_
  have hS := T69_v56_ok N
  have F := f0
  unfold ac69 rv69
  unfold D_slices_MaxFunc_api_Place_api_Place_v56 at h
  try simp only [gd_some, Option.bind_eq_some_iff] at h
  obtain ⟨hv1, h⟩ := h
  refine go hS F ?_
  refine cb F (decide ((x1250.length : Int) < 1)) (fun hc2 => ?_) (fun hc2 => ?_)
  · exact Bool.noConfusion (hc2.symm.trans hv1)
  try simp only [gd_some, Option.bind_eq_some_iff] at h
  obtain ⟨⟨x1251, x1252⟩, hn1252, h⟩ := h
  have hx1252 : x1250.getD 0 (0, 0) = (x1251, x1252) := ixs hn1252 _
  have hb1252 := (nth_some hn1252).1
  replace F := fc hx1252 F
  try simp only [gd_some, Option.bind_eq_some_iff] at h
  obtain ⟨o1276, hL3, h⟩ := h
  refine go hS F ?_
  refine awp_cut (fun z : Int × Int × Nat => ⟨[(4, .box (0, 1) 0), (5, .box (303, 3) 0)], [(.c (303, 3) 0, .i z.1), (.c (303, 3) 1, .i z.2.1), (.c (0, 1) 0, .i 0), (.c (0, 1) 1, .i 0)], z.2.2⟩) (fun z => ((z.1, z.2.1) : Int × Int) = o1276) (.x 0) ?_ ?_
  · refine awp_loop (fun y : Nat × Int × Int × Int × Nat => ⟨[(0, .sl 2 false (x1250.map e_ii) [.i 0, .i 0]), (1, .clo (.func 56) [] []), (4, .box (0, 1) 0), (5, .box (303, 3) 0), (6, .i y.2.1)], [(.c (303, 3) 0, .i y.2.2.1), (.c (303, 3) 1, .i y.2.2.2.1), (.c (0, 1) 0, .i 0), (.c (0, 1) 1, .i 0)], y.2.2.2.2⟩) (fun y => D_slices_MaxFunc_api_Place_api_Place_v56_L1 N x1250 y.1 y.2.1 y.2.2.1 y.2.2.2.1 = some o1276) (fun y => y.1) (N, 1, x1251, x1252, 4) hL3 ?_ ?_
    · exact leF F
    · rintro ⟨n, i1261, m1262, m1263, c1260⟩ hB4
      try simp only at hB4
      obtain _ | n := n
      · exact absurd hB4 (by simp [D_slices_MaxFunc_api_Place_api_Place_v56_L1])
      rw [D_slices_MaxFunc_api_Place_api_Place_v56_L1] at hB4
      refine go hS F ?_
      refine cb F (decide (i1261 < (x1250.length : Int))) (fun hc5 => ?_) (fun hc5 => ?_)
      · replace hB4 := cond_t hc5 hB4
        try simp only [gd_some, Option.bind_eq_some_iff] at hB4
        obtain ⟨⟨x1264, x1265⟩, hn1265, hB4⟩ := hB4
        have hx1265 : x1250.getD i1261.toNat (0, 0) = (x1264, x1265) := ixs hn1265 _
        have hb1265 := (nth_some hn1265).1
        replace F := fc hx1265 F
        try simp only [gd_some, Option.bind_eq_some_iff] at hB4
        obtain ⟨r1267, hr1267, hB4⟩ := hB4
        replace F := fc hr1267 F
        refine go hS F ?_
        refine cb F (decide (0 < r1267)) (fun hc6 => ?_) (fun hc6 => ?_)
        · replace hB4 := cond_t hc6 hB4
          try simp only [gd_some, Option.bind_eq_some_iff] at hB4
          obtain ⟨hv7, hB4⟩ := hB4
          simp only [I64] at hv7
          refine go hS F ?_
          exact backK_n (n, i1261 + 1, x1264, x1265, c1260 + 1 + 1 + 1 + 1) hB4 (Nat.lt_succ_self _) (leF F)
        · replace hB4 := cond_f hc6 hB4
          try simp only [gd_some, Option.bind_eq_some_iff] at hB4
          obtain ⟨hv8, hB4⟩ := hB4
          simp only [I64] at hv8
          refine go hS F ?_
          exact backK_n (n, i1261 + 1, m1262, m1263, c1260 + 1 + 1 + 1) hB4 (Nat.lt_succ_self _) (leF F)
      · replace hB4 := cond_f hc5 hB4
        refine go hS F ?_
        exact cutK_h (m1262, m1263, c1260 + 1) (Option.some.inj hB4) (leF F)
  · rintro ⟨m1274, m1275, c1273⟩ hz9
    subst hz9
    try simp only at h
    obtain rfl := Option.some.inj h
    refine go hS F ?_
    exact fin F
end

def s69_v56 (N : Nat) : Spec
  | [.sl yx1250 _ x1250 _, .clo (.func 56) [] []] => some (((yx1250 = 2 ∨ x1250 = []) ∧ x1250 = (x1250.map d_ii).map e_ii) ∧ (D_slices_MaxFunc_api_Place_api_Place_v56 N (x1250.map d_ii)).isSome = true, .agg [.i (((D_slices_MaxFunc_api_Place_api_Place_v56 N (x1250.map d_ii)).getD (0, 0)).1), .i (((D_slices_MaxFunc_api_Place_api_Place_v56 N (x1250.map d_ii)).getD (0, 0)).2)])
  | _ => none
theorem fok69_v56 (N : Nat) : FOK Try.prog 69 (s69_v56 N) := ⟨of69, by
  intro args vc r h hv
  unfold s69_v56 at h
  split at h
  · cases h
    obtain ⟨⟨hy0, hr0⟩, hs⟩ := hv
    obtain ⟨r, hr⟩ := Option.isSome_iff_exists.1 hs
    have hk := D_slices_MaxFunc_api_Place_api_Place_v56_ok N _ r hr
    simp only [hr, Option.getD_some]
    refine PCall.arg ?_ hk
    simp only [wkL, wk, and_true, true_and, Bool.false_eq_true, false_implies, implies_true]
    repeat' (first | exact True.intro | assumption | apply And.intro)
  · simp at h⟩

/-! slices.MinFunc   putlog/api.Place putlog/api.Place  -/
def D_slices_MinFunc_api_Place_api_Place_v56_L1 (N : Nat) (x1277 : List (Int × Int)) : Nat → Int → Int → Int → Option (Int × Int)
  | 0, _, _, _ => none
  | n + 1, i1288, m1289, m1290 =>
    bif decide (i1288 < (x1277.length : Int)) then (
      (nth x1277 i1288).bind fun (x1291, x1292) =>
      (D_plane_order N x1291 x1292 m1289 m1290).bind fun r1294 =>
      bif decide (r1294 < 0) then (
        gd (I64 (i1288 + 1)) <|
        D_slices_MinFunc_api_Place_api_Place_v56_L1 N x1277 n (i1288 + 1) x1291 x1292)
      else (
        gd (I64 (i1288 + 1)) <|
        D_slices_MinFunc_api_Place_api_Place_v56_L1 N x1277 n (i1288 + 1) m1289 m1290))
    else (
      some (m1289, m1290))

def D_slices_MinFunc_api_Place_api_Place_v56 (N : Nat) (x1277 : List (Int × Int)) : Option (Int × Int) :=
  gd ((decide ((x1277.length : Int) < 1)) = false) <|
  (nth x1277 0).bind fun (x1278, x1279) =>
  (D_slices_MinFunc_api_Place_api_Place_v56_L1 N x1277 N 1 x1278 x1279).bind fun (m1301, m1302) =>
  some (m1301, m1302)

def T70_v56 (N : Nat) : List (Nat × Spec) := [(56, s56 N)]
theorem T70_v56_ok (N : Nat) : TabOK Try.prog (tabOf (T70_v56 N)) := tab_cons (fok56 N) (tab_nil)

section
attribute [local go_sem] T70_v56 s56 e_ii de_ii rb_ii d_ii rowAt_zero rowAt_succ List.set_cons_succ List.isEmpty_map List.map_append List.map_eq_nil_iff ne_eq List.length_replicate takeMap dropMap List.length_set Option.isSome_some
theorem D_slices_MinFunc_api_Place_api_Place_v56_ok (N : Nat) (x1277 : List (Int × Int)) (r : Int × Int) (h : D_slices_MinFunc_api_Place_api_Place_v56 N x1277 = some r) : PCall Try.prog 70 [.sl 2 false (x1277.map e_ii) [.i 0, .i 0], .clo (.func 56) [] []] (.agg [.i r.1, .i r.2]) := by
  refine pcall_fn (T70_v56_ok N) _ Try.func70 ok70 nt70 (by simp) fun _ => ?_
  have hS := T70_v56_ok N
  have F := f0
  unfold ac70 rv70
  unfold D_slices_MinFunc_api_Place_api_Place_v56 at h
  try simp only [gd_some, Option.bind_eq_some_iff] at h
  obtain ⟨hv1, h⟩ := h
  refine go hS F ?_
  refine cb F (decide ((x1277.length : Int) < 1)) (fun hc2 => ?_) (fun hc2 => ?_)
  · exact Bool.noConfusion (hc2.symm.trans hv1)
  try simp only [gd_some, Option.bind_eq_some_iff] at h
  obtain ⟨⟨x1278, x1279⟩, hn1279, h⟩ := h
  have hx1279 : x1277.getD 0 (0, 0) = (x1278, x1279) := ixs hn1279 _
  have hb1279 := (nth_some hn1279).1
  replace F := fc hx1279 F
  try simp only [gd_some, Option.bind_eq_some_iff] at h
  obtain ⟨o1303, hL3, h⟩ := h
  refine go hS F ?_
  refine awp_cut (fun z : Int × Int × Nat => ⟨[(4, .box (0, 1) 0), (5, .box (303, 3) 0)], [(.c (303, 3) 0, .i z.1), (.c (303, 3) 1, .i z.2.1), (.c (0, 1) 0, .i 0), (.c (0, 1) 1, .i 0)], z.2.2⟩) (fun z => ((z.1, z.2.1) : Int × Int) = o1303) (.x 0) ?_ ?_
  · refine awp_loop (fun y : Nat × Int × Int × Int × Nat => ⟨[(0, .sl 2 false (x1277.map e_ii) [.i 0, .i 0]), (1, .clo (.func 56) [] []), (4, .box (0, 1) 0), (5, .box (303, 3) 0), (6, .i y.2.1)], [(.c (303, 3) 0, .i y.2.2.1), (.c (303, 3) 1, .i y.2.2.2.1), (.c (0, 1) 0, .i 0), (.c (0, 1) 1, .i 0)], y.2.2.2.2⟩) (fun y => D_slices_MinFunc_api_Place_api_Place_v56_L1 N x1277 y.1 y.2.1 y.2.2.1 y.2.2.2.1 = some o1303) (fun y => y.1) (N, 1, x1278, x1279, 4) hL3 ?_ ?_
    · exact leF F
    · rintro ⟨n, i1288, m1289, m1290, c1287⟩ hB4
      try simp only at hB4
      obtain _ | n := n
      · exact absurd hB4 (by simp [D_slices_MinFunc_api_Place_api_Place_v56_L1])
      rw [D_slices_MinFunc_api_Place_api_Place_v56_L1] at hB4
      refine go hS F ?_
      refine cb F (decide (i1288 < (x1277.length : Int))) (fun hc5 => ?_) (fun hc5 => ?_)
      · replace hB4 := cond_t hc5 hB4
        try simp only [gd_some, Option.bind_eq_some_iff] at hB4
        obtain ⟨⟨x1291, x1292⟩, hn1292, hB4⟩ := hB4
        have hx1292 : x1277.getD i1288.toNat (0, 0) = (x1291, x1292) := ixs hn1292 _
        have hb1292 := (nth_some hn1292).1
        replace F := fc hx1292 F
        try simp only [gd_some, Option.bind_eq_some_iff] at hB4
        obtain ⟨r1294, hr1294, hB4⟩ := hB4
        replace F := fc hr1294 F
        refine go hS F ?_
        refine cb F (decide (r1294 < 0)) (fun hc6 => ?_) (fun hc6 => ?_)
        · replace hB4 := cond_t hc6 hB4
          try simp only [gd_some, Option.bind_eq_some_iff] at hB4
          obtain ⟨hv7, hB4⟩ := hB4
          simp only [I64] at hv7
          refine go hS F ?_
          exact backK_n (n, i1288 + 1, x1291, x1292, c1287 + 1 + 1 + 1 + 1) hB4 (Nat.lt_succ_self _) (leF F)
        · replace hB4 := cond_f hc6 hB4
          try simp only [gd_some, Option.bind_eq_some_iff] at hB4
          obtain ⟨hv8, hB4⟩ := hB4
          simp only [I64] at hv8
          refine go hS F ?_
          exact backK_n (n, i1288 + 1, m1289, m1290, c1287 + 1 + 1 + 1) hB4 (Nat.lt_succ_self _) (leF F)
      · replace hB4 := cond_f hc5 hB4
        refine go hS F ?_
        exact cutK_h (m1289, m1290, c1287 + 1) (Option.some.inj hB4) (leF F)
  · rintro ⟨m1301, m1302, c1300⟩ hz9
    subst hz9
    try simp only at h
    obtain rfl := Option.some.inj h
    refine go hS F ?_
    exact fin F
end

def s70_v56 (N : Nat) : Spec
  | [.sl yx1277 _ x1277 _, .clo (.func 56) [] []] => some (((yx1277 = 2 ∨ x1277 = []) ∧ x1277 = (x1277.map d_ii).map e_ii) ∧ (D_slices_MinFunc_api_Place_api_Place_v56 N (x1277.map d_ii)).isSome = true, .agg [.i (((D_slices_MinFunc_api_Place_api_Place_v56 N (x1277.map d_ii)).getD (0, 0)).1), .i (((D_slices_MinFunc_api_Place_api_Place_v56 N (x1277.map d_ii)).getD (0, 0)).2)])
  | _ => none
theorem fok70_v56 (N : Nat) : FOK Try.prog 70 (s70_v56 N) := ⟨of70, by
  intro args vc r h hv
  unfold s70_v56 at h
  split at h
  · cases h
    obtain ⟨⟨hy0, hr0⟩, hs⟩ := hv
    obtain ⟨r, hr⟩ := Option.isSome_iff_exists.1 hs
    have hk := D_slices_MinFunc_api_Place_api_Place_v56_ok N _ r hr
    simp only [hr, Option.getD_some]
    refine PCall.arg ?_ hk
    simp only [wkL, wk, and_true, true_and, Bool.false_eq_true, false_implies, implies_true]
    repeat' (first | exact True.intro | assumption | apply And.intro)
  · simp at h⟩

/-! putlog/plane.common -/
def D_plane_common (N : Nat) (p1304 : Int) (p1305 : Int) (q1306 : Int) (q1307 : Int) (r1308 : Int) (r1309 : Int) (s1310 : Int) (s1311 : Int) : Option ((Int × Int) × (Int × Int)) :=
  (some ((Lib.bitLen (2 : Int).toNat : Int))).bind fun r1312 =>
  (D_plane_order N q1306 q1307 p1304 p1305).bind fun r1314 =>
  bif decide (r1314 < 0) then (
    (D_plane_order N s1310 s1311 r1308 r1309).bind fun r1317 =>
    bif decide (r1317 < 0) then (
      (D_slices_MaxFunc_api_Place_api_Place_v56 N [(q1306, q1307), (s1310, s1311)]).bind fun (r1319, r1320) =>
      (D_slices_MinFunc_api_Place_api_Place_v56 N [(p1304, p1305), (r1308, r1309)]).bind fun (r1322, r1323) =>
      some ((r1319, r1320), (r1322, r1323)))
    else (
      (D_slices_MaxFunc_api_Place_api_Place_v56 N [(q1306, q1307), (r1308, r1309)]).bind fun (r1325, r1326) =>
      (D_slices_MinFunc_api_Place_api_Place_v56 N [(p1304, p1305), (s1310, s1311)]).bind fun (r1328, r1329) =>
      some ((r1325, r1326), (r1328, r1329))))
  else (
    (D_plane_order N s1310 s1311 r1308 r1309).bind fun r1332 =>
    bif decide (r1332 < 0) then (
      (D_slices_MaxFunc_api_Place_api_Place_v56 N [(p1304, p1305), (s1310, s1311)]).bind fun (r1334, r1335) =>
      (D_slices_MinFunc_api_Place_api_Place_v56 N [(q1306, q1307), (r1308, r1309)]).bind fun (r1337, r1338) =>
      some ((r1334, r1335), (r1337, r1338)))
    else (
      (D_slices_MaxFunc_api_Place_api_Place_v56 N [(p1304, p1305), (r1308, r1309)]).bind fun (r1340, r1341) =>
      (D_slices_MinFunc_api_Place_api_Place_v56 N [(q1306, q1307), (s1310, s1311)]).bind fun (r1343, r1344) =>
      some ((r1340, r1341), (r1343, r1344))))

def T55 (N : Nat) : List (Nat × Spec) := [(75, sBits), (56, s56 N), (69, s69_v56 N), (70, s70_v56 N)]
theorem T55_ok (N : Nat) : TabOK Try.prog (tabOf (T55 N)) := tab_cons bits_fok (tab_cons (fok56 N) (tab_cons (fok69_v56 N) (tab_cons (fok70_v56 N) (tab_nil))))

section
attribute [local go_sem] T55 sBits s56 s69_v56 s70_v56 e_ii de_ii rb_ii d_ii rowAt_zero rowAt_succ List.set_cons_succ List.isEmpty_map List.map_append List.map_eq_nil_iff ne_eq List.length_replicate takeMap dropMap List.length_set Option.isSome_some
theorem D_plane_common_ok (N : Nat) (p1304 : Int) (p1305 : Int) (q1306 : Int) (q1307 : Int) (r1308 : Int) (r1309 : Int) (s1310 : Int) (s1311 : Int) (r : (Int × Int) × (Int × Int)) (h : D_plane_common N p1304 p1305 q1306 q1307 r1308 r1309 s1310 s1311 = some r) : PCall Try.prog 55 [.agg [.i p1304, .i p1305], .agg [.i q1306, .i q1307], .agg [.i r1308, .i r1309], .agg [.i s1310, .i s1311]] (.tup [.agg [.i r.1.1, .i r.1.2], .agg [.i r.2.1, .i r.2.2]]) := by
  refine pcall_fn (T55_ok N) _ Try.func55 ok55 nt55 (by simp) fun _ => ?_
  have hS := T55_ok N
  have F := f0
  unfold ac55 rv55
  unfold D_plane_common at h
  refine go hS F ?_
  refine awp_inlF hS 1 Try.func68 ok68 nt68 of68 rfl (by simp only [go_sem, seval, F] <;> eq_refl) (by simp only [go_sem, seval, F] <;> eq_refl) ?_ rfl (by simp only [go_sem, seval, F] <;> eq_refl) (by simp) fun hb => ?_
  · exact goc hS F
  unfold ac68 rv68
  try simp only [gd_some, Option.bind_eq_some_iff] at h
  obtain ⟨r1312, hr1312, h⟩ := h
  have he1312 := Option.some.inj hr1312
  replace F := fc he1312 F
  refine go hS F ?_
  refine awp_inlF hS 6 Try.func74 ok74 nt74 of74 rfl (by simp only [go_sem, seval, F] <;> eq_refl) (by simp only [go_sem, seval, F] <;> eq_refl) ?_ rfl (by simp only [go_sem, seval, F] <;> eq_refl) (by simp) fun hb => ?_
  · exact goc hS F
  unfold ac74 rv74
  refine go hS F ?_
  refine awp_unroll 30 ?_
  refine go hS F ?_
  refine ct F ?_
  refine go hS F ?_
  refine awp_inlF hS 4 Try.func76 ok76 nt76 of76 rfl (by simp only [go_sem, seval, F] <;> eq_refl) (by simp only [go_sem, seval, F] <;> eq_refl) ?_ rfl (by simp only [go_sem, seval, F] <;> eq_refl) (by simp) fun hb => ?_
  · exact goc hS F
  unfold ac76 rv76
  refine go hS F ?_
  refine awp_unroll 30 ?_
  refine go hS F ?_
  refine ct F ?_
  refine go hS F ?_
  refine awp_unroll 30 ?_
  try simp only [gd_some, Option.bind_eq_some_iff] at h
  obtain ⟨r1314, hr1314, h⟩ := h
  replace F := fc hr1314 F
  refine go hS F ?_
  refine cb F (decide (r1314 < 0)) (fun hc1 => ?_) (fun hc1 => ?_)
  · replace h := cond_t hc1 h
    refine go hS F ?_
    refine cf F ?_
    refine go hS F ?_
    refine cf F ?_
    refine go hS F ?_
    refine awp_inlF hS 1 Try.func68 ok68 nt68 of68 rfl (by simp only [go_sem, seval, F] <;> eq_refl) (by simp only [go_sem, seval, F] <;> eq_refl) ?_ rfl (by simp only [go_sem, seval, F] <;> eq_refl) (by simp) fun hb => ?_
    · exact goc hS F
    unfold ac68 rv68
    refine go hS F ?_
    refine awp_inlF hS 6 Try.func74 ok74 nt74 of74 rfl (by simp only [go_sem, seval, F] <;> eq_refl) (by simp only [go_sem, seval, F] <;> eq_refl) ?_ rfl (by simp only [go_sem, seval, F] <;> eq_refl) (by simp) fun hb => ?_
    · exact goc hS F
    unfold ac74 rv74
    refine go hS F ?_
    refine awp_unroll 30 ?_
    refine go hS F ?_
    refine ct F ?_
    refine go hS F ?_
    refine awp_inlF hS 4 Try.func76 ok76 nt76 of76 rfl (by simp only [go_sem, seval, F] <;> eq_refl) (by simp only [go_sem, seval, F] <;> eq_refl) ?_ rfl (by simp only [go_sem, seval, F] <;> eq_refl) (by simp) fun hb => ?_
    · exact goc hS F
    unfold ac76 rv76
    refine go hS F ?_
    refine awp_unroll 30 ?_
    refine go hS F ?_
    refine ct F ?_
    refine go hS F ?_
    refine awp_unroll 30 ?_
    try simp only [gd_some, Option.bind_eq_some_iff] at h
    obtain ⟨r1317, hr1317, h⟩ := h
    replace F := fc hr1317 F
    refine go hS F ?_
    refine cb F (decide (r1317 < 0)) (fun hc2 => ?_) (fun hc2 => ?_)
    · replace h := cond_t hc2 h
      refine go hS F ?_
      refine cf F ?_
      refine go hS F ?_
      refine cf F ?_
      try simp only [gd_some, Option.bind_eq_some_iff] at h
      obtain ⟨⟨r1319, r1320⟩, hr1320, h⟩ := h
      replace F := fc hr1320 F
      try simp only [gd_some, Option.bind_eq_some_iff] at h
      obtain ⟨⟨r1322, r1323⟩, hr1323, h⟩ := h
      replace F := fc hr1323 F
      obtain rfl := Option.some.inj h
      refine go hS F ?_
      exact fin F
    · replace h := cond_f hc2 h
      refine go hS F ?_
      refine cf F ?_
      try simp only [gd_some, Option.bind_eq_some_iff] at h
      obtain ⟨⟨r1325, r1326⟩, hr1326, h⟩ := h
      replace F := fc hr1326 F
      try simp only [gd_some, Option.bind_eq_some_iff] at h
      obtain ⟨⟨r1328, r1329⟩, hr1329, h⟩ := h
      replace F := fc hr1329 F
      obtain rfl := Option.some.inj h
      refine go hS F ?_
      exact fin F
  · replace h := cond_f hc1 h
    refine go hS F ?_
    refine cf F ?_
    refine go hS F ?_
    refine awp_inlF hS 1 Try.func68 ok68 nt68 of68 rfl (by simp only [go_sem, seval, F] <;> eq_refl) (by simp only [go_sem, seval, F] <;> eq_refl) ?_ rfl (by simp only [go_sem, seval, F] <;> eq_refl) (by simp) fun hb => ?_
    · exact goc hS F
    unfold ac68 rv68
    refine go hS F ?_
    refine awp_inlF hS 6 Try.func74 ok74 nt74 of74 rfl (by simp only [go_sem, seval, F] <;> eq_refl) (by simp only [go_sem, seval, F] <;> eq_refl) ?_ rfl (by simp only [go_sem, seval, F] <;> eq_refl) (by simp) fun hb => ?_
    · exact goc hS F
    unfold ac74 rv74
    refine go hS F ?_
    refine awp_unroll 30 ?_
    refine go hS F ?_
    refine ct F ?_
    refine go hS F ?_
    refine awp_inlF hS 4 Try.func76 ok76 nt76 of76 rfl (by simp only [go_sem, seval, F] <;> eq_refl) (by simp only [go_sem, seval, F] <;> eq_refl) ?_ rfl (by simp only [go_sem, seval, F] <;> eq_refl) (by simp) fun hb => ?_
    · exact goc hS F
    unfold ac76 rv76
    refine go hS F ?_
    refine awp_unroll 30 ?_
    refine go hS F ?_
    refine ct F ?_
    refine go hS F ?_
    refine awp_unroll 30 ?_
    try simp only [gd_some, Option.bind_eq_some_iff] at h
    obtain ⟨r1332, hr1332, h⟩ := h
    replace F := fc hr1332 F
    refine go hS F ?_
    refine cb F (decide (r1332 < 0)) (fun hc3 => ?_) (fun hc3 => ?_)
    · replace h := cond_t hc3 h
      refine go hS F ?_
      refine cf F ?_
      refine go hS F ?_
      refine cf F ?_
      try simp only [gd_some, Option.bind_eq_some_iff] at h
      obtain ⟨⟨r1334, r1335⟩, hr1335, h⟩ := h
      replace F := fc hr1335 F
      try simp only [gd_some, Option.bind_eq_some_iff] at h
      obtain ⟨⟨r1337, r1338⟩, hr1338, h⟩ := h
      replace F := fc hr1338 F
      obtain rfl := Option.some.inj h
      refine go hS F ?_
      exact fin F
    · replace h := cond_f hc3 h
      refine go hS F ?_
      refine cf F ?_
      try simp only [gd_some, Option.bind_eq_some_iff] at h
      obtain ⟨⟨r1340, r1341⟩, hr1341, h⟩ := h
      replace F := fc hr1341 F
      try simp only [gd_some, Option.bind_eq_some_iff] at h
      obtain ⟨⟨r1343, r1344⟩, hr1344, h⟩ := h
      replace F := fc hr1344 F
      obtain rfl := Option.some.inj h
      refine go hS F ?_
      exact fin F
end

def s55 (N : Nat) : Spec
  | [.agg [.v (.int .i64 p1304), .v (.int .i64 p1305)], .agg [.v (.int .i64 q1306), .v (.int .i64 q1307)], .agg [.v (.int .i64 r1308), .v (.int .i64 r1309)], .agg [.v (.int .i64 s1310), .v (.int .i64 s1311)]] => some ((D_plane_common N p1304 p1305 q1306 q1307 r1308 r1309 s1310 s1311).isSome = true, .tup [.agg [.i ((((D_plane_common N p1304 p1305 q1306 q1307 r1308 r1309 s1310 s1311).getD ((0, 0), (0, 0))).1).1), .i ((((D_plane_common N p1304 p1305 q1306 q1307 r1308 r1309 s1310 s1311).getD ((0, 0), (0, 0))).1).2)], .agg [.i ((((D_plane_common N p1304 p1305 q1306 q1307 r1308 r1309 s1310 s1311).getD ((0, 0), (0, 0))).2).1), .i ((((D_plane_common N p1304 p1305 q1306 q1307 r1308 r1309 s1310 s1311).getD ((0, 0), (0, 0))).2).2)]])
  | _ => none
theorem fok55 (N : Nat) : FOK Try.prog 55 (s55 N) := ⟨of55, by
  intro args vc r h hv
  unfold s55 at h
  split at h
  · cases h
    have hs := hv
    obtain ⟨r, hr⟩ := Option.isSome_iff_exists.1 hs
    have hk := D_plane_common_ok N _ _ _ _ _ _ _ _ r hr
    simp only [hr, Option.getD_some]
    refine PCall.arg ?_ hk
    simp only [wkL, wk, and_true, true_and, Bool.false_eq_true, false_implies, implies_true]
    try trivial
  · simp at h⟩
end Go.Proofs.Ytojciffnkbfbhaa.Am
