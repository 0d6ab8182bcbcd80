import Derived.Test.YtojciffnkbfbhaaD1
namespace Go.Proofs.Ytojciffnkbfbhaa.Am
open Go
attribute [local irreducible] awp seqK blkK backK endK inlK restK rngK asgK itK
set_option maxRecDepth 100000
set_option maxHeartbeats 8000000
set_option linter.unusedSimpArgs false
set_option linter.unusedVariables false
def e_Sii (x : List (Int × Int)) : List AV := [.sl 2 false (x.map e_ii) [.i 0, .i 0]]
def d_Sii : List AV → List (Int × Int)
  | [.sl _ _ a1 _] => (a1.map d_ii)
  | _ => []
theorem d1_Sii (x : List (Int × Int)) : d_Sii (e_Sii x) = x := by simp only [e_Sii, d_Sii, de_ii]
theorem de_Sii (R : List (List (Int × Int))) : (R.map e_Sii).map d_Sii = R := by
  induction R with
  | nil => rfl
  | cons r R ih => rw [List.map_cons, List.map_cons, ih, d1_Sii]

theorem rq_Sii {R : List (List (Int × Int))} {i : Int} {x : (List (Int × Int))} (h : nth R i = some x) (d : List AV) : rowAt (R.map e_Sii) d i.toNat = e_Sii x := by
  unfold nth at h
  split at h
  · unfold rowAt; rw [List.getD_eq_getElem?_getD, List.getElem?_map, h]; rfl
  · cases h
/-! slices.Concat   putlog/api.Place putlog/api.Place  -/
def D_slices_Concat_api_Place_api_Place_L1 (N : Nat) (slices1377 : List (List (Int × Int))) : Nat → Int → Int → Option Int
  | 0, _, _ => none
  | n + 1, size1382, x1383 =>
    bif decide (x1383 < (slices1377.length : Int)) then (
      (nth slices1377 x1383).bind fun x1384 =>
      gd (I64 (size1382 + (x1384.length : Int))) <|
      gd ((decide (size1382 + (x1384.length : Int) < 0)) = false) <|
      gd (I64 (x1383 + 1)) <|
      D_slices_Concat_api_Place_api_Place_L1 N slices1377 n (size1382 + (x1384.length : Int)) (x1383 + 1))
    else (
      some size1382)

def D_slices_Concat_api_Place_api_Place_L3 (N : Nat) (slices1377 : List (List (Int × Int))) : Nat → Int → (List (Int × Int)) → Option ((List (Int × Int)))
  | 0, _, _ => none
  | n + 1, x1410, l1411 =>
    bif decide (x1410 < (slices1377.length : Int)) then (
      (nth slices1377 x1410).bind fun x1412 =>
      gd ((l1411.length + x1412.length) * 16 ≤ 140737488355328) <|
      gd (I64 (x1410 + 1)) <|
      D_slices_Concat_api_Place_api_Place_L3 N slices1377 n (x1410 + 1) (l1411 ++ x1412))
    else (
      some l1411)

def D_slices_Concat_api_Place_api_Place_L5 (N : Nat) (slices1377 : List (List (Int × Int))) : Nat → Int → (List (Int × Int)) → Option ((List (Int × Int)))
  | 0, _, _ => none
  | n + 1, x1428, l1429 =>
    bif decide (x1428 < (slices1377.length : Int)) then (
      (nth slices1377 x1428).bind fun x1430 =>
      gd ((l1429.length + x1430.length) * 16 ≤ 140737488355328) <|
      gd (I64 (x1428 + 1)) <|
      D_slices_Concat_api_Place_api_Place_L5 N slices1377 n (x1428 + 1) (l1429 ++ x1430))
    else (
      some l1429)

def D_slices_Concat_api_Place_api_Place (N : Nat) (slices1377 : List (List (Int × Int))) : Option (List (Int × Int)) :=
  (D_slices_Concat_api_Place_api_Place_L1 N slices1377 N 0 0).bind fun size1390 =>
  gd ((decide (size1390 < 0)) = false) <|
  gd (I64 (size1390 - 0)) <|
  bif decide (0 < size1390 - 0) then (
    gd (0 ≤ 0 ∧ 0 ≤ 0 ∧ 0 ≤ 0) <|
    gd (0 < size1390 - 0) <|
    gd ((size1390 - 0) * 16 ≤ 140737488355328) <|
    (D_slices_Concat_api_Place_api_Place_L3 N slices1377 N 0 []).bind fun l1418 =>
    some l1418)
  else (
    (D_slices_Concat_api_Place_api_Place_L5 N slices1377 N 0 []).bind fun l1436 =>
    some l1436)

def T54 (N : Nat) : List (Nat × Spec) := []
theorem T54_ok (N : Nat) : TabOK Try.prog (tabM (T54 N)) := tabM_ok (tab_nil)

section
attribute [local go_sem] T54 e_Sii de_Sii d_Sii e_ii de_ii rb_ii d_ii rowAt_zero rowAt_succ List.set_cons_succ List.isEmpty_map List.map_append List.map_eq_nil_iff ne_eq List.length_replicate takeMap dropMap List.length_set Option.isSome_some
theorem D_slices_Concat_api_Place_api_Place_ok (N : Nat) (slices1377 : List (List (Int × Int))) (r : List (Int × Int)) (h : D_slices_Concat_api_Place_api_Place N slices1377 = some r) : PCall Try.prog 54 [.sl 1 false (slices1377.map e_Sii) [.sl 0 true [] []]] (.sl 2 false (r.map e_ii) [.i 0, .i 0]) := by
  refine pcall_fn (T54_ok N) _ Try.func54 ok54 nt54 (by simp) fun _ => ?_
  have hS := T54_ok N
  have F := f0
  unfold ac54 rv54
  unfold D_slices_Concat_api_Place_api_Place at h
  try simp only [gd_some, Option.bind_eq_some_iff] at h
  obtain ⟨o1391, hL1, h⟩ := h
  refine go hS F ?_
  refine awp_cut (fun z : Int × Nat => ⟨[(0, .sl 1 false (slices1377.map e_Sii) [.sl 0 true [] []]), (3, .i z.1)], [], z.2⟩) (fun z => (z.1 : Int) = o1391) (.x 0) ?_ ?_
  · refine awp_loop (fun y : Nat × Int × Int × Nat => ⟨[(0, .sl 1 false (slices1377.map e_Sii) [.sl 0 true [] []]), (3, .i y.2.1), (9, .sl 1 false (slices1377.map e_Sii) [.sl 0 true [] []]), (10, .i (slices1377.length : Int)), (11, .i y.2.2.1)], [], y.2.2.2⟩) (fun y => D_slices_Concat_api_Place_api_Place_L1 N slices1377 y.1 y.2.1 y.2.2.1 = some o1391) (fun y => y.1) (N, 0, 0, 3) hL1 ?_ ?_
    · exact leF F
    · rintro ⟨n, size1382, x1383, c1381⟩ hB2
      try simp only at hB2
      obtain _ | n := n
      · exact absurd hB2 (by simp [D_slices_Concat_api_Place_api_Place_L1])
      rw [D_slices_Concat_api_Place_api_Place_L1] at hB2
      refine go hS F ?_
      refine cb F (decide (x1383 < (slices1377.length : Int))) (fun hc3 => ?_) (fun hc3 => ?_)
      · replace hB2 := cond_t hc3 hB2
        try simp only [gd_some, Option.bind_eq_some_iff] at hB2
        obtain ⟨x1384, hn1384, hv4, hv5, hB2⟩ := hB2
        have hq1384 : ∀ d, rowAt (slices1377.map e_Sii) d x1383.toNat = [.sl 2 false (x1384.map e_ii) [.i 0, .i 0]] := rq_Sii hn1384
        have hb1384 := (nth_some hn1384).1
        simp only [I64] at hv4
        replace F := fc hq1384 F
        refine go hS F ?_
        refine cb F (decide (size1382 + (x1384.length : Int) < 0)) (fun hc6 => ?_) (fun hc6 => ?_)
        · exact Bool.noConfusion (hc6.symm.trans hv5)
        try simp only [gd_some, Option.bind_eq_some_iff] at hB2
        obtain ⟨hv7, hB2⟩ := hB2
        simp only [I64] at hv7
        refine go hS F ?_
        exact backK_n (n, size1382 + (x1384.length : Int), x1383 + 1, c1381 + 1 + 1 + 1 + 1 + 1) hB2 (Nat.lt_succ_self _) (leF F)
      · replace hB2 := cond_f hc3 hB2
        refine go hS F ?_
        exact cutK_h (size1382, c1381 + 1) (Option.some.inj hB2) (leF F)
  · rintro ⟨size1390, c1389⟩ hz8
    subst hz8
    try simp only at h
    refine go hS F ?_
    refine awp_inlF hS 1 Try.func67 ok67 nt67 of67 rfl (by simp only [go_sem, seval, F] <;> eq_refl) (by simp only [go_sem, seval, F] <;> eq_refl) ?_ rfl (by simp only [go_sem, seval, F] <;> eq_refl) (by simp) fun hb => ?_
    · exact goc hS F
    unfold ac67 rv67
    try simp only [gd_some, Option.bind_eq_some_iff] at h
    obtain ⟨hv9, h⟩ := h
    refine go hS F ?_
    refine cb F (decide (size1390 < 0)) (fun hc10 => ?_) (fun hc10 => ?_)
    · exact Bool.noConfusion (hc10.symm.trans hv9)
    try simp only [gd_some, Option.bind_eq_some_iff] at h
    obtain ⟨hv11, h⟩ := h
    simp only [I64] at hv11
    refine go hS F ?_
    refine cb F (decide (0 < size1390 - 0)) (fun hc12 => ?_) (fun hc12 => ?_)
    · replace h := cond_t hc12 h
      try simp only [gd_some, Option.bind_eq_some_iff] at h
      obtain ⟨hv13, hv14, hv15, h⟩ := h
      try simp only [gd_some, Option.bind_eq_some_iff] at h
      obtain ⟨o1419, hL16, h⟩ := h
      refine go hS F ?_
      refine awp_cut (fun z : (List (Int × Int)) × Nat => ⟨[(6, .own (508, c1389 + 1 + 1 + 1 + 1 + 1 + 1) z.1.length)], [(.a (508, c1389 + 1 + 1 + 1 + 1 + 1 + 1), .sl 2 true (z.1.map e_ii) [.i 0, .i 0])], z.2⟩) (fun z => (z.1 : (List (Int × Int))) = o1419) (.x 2) ?_ ?_
      · refine awp_loop (fun y : Nat × Int × (List (Int × Int)) × Nat => ⟨[(6, .own (508, c1389 + 1 + 1 + 1 + 1 + 1 + 1) y.2.2.1.length), (25, .sl 1 false (slices1377.map e_Sii) [.sl 0 true [] []]), (26, .i (slices1377.length : Int)), (27, .i y.2.1)], [(.a (508, c1389 + 1 + 1 + 1 + 1 + 1 + 1), .sl 2 true (y.2.2.1.map e_ii) [.i 0, .i 0])], y.2.2.2⟩) (fun y => D_slices_Concat_api_Place_api_Place_L3 N slices1377 y.1 y.2.1 y.2.2.1 = some o1419) (fun y => y.1) (N, 0, [], c1389 + 1 + 1 + 1 + 1 + 1 + 1 + 1 + 1 + 1) hL16 ?_ ?_
        · exact leF F
        · rintro ⟨n, x1410, l1411, c1409⟩ hB17
          try simp only at hB17
          obtain _ | n := n
          · exact absurd hB17 (by simp [D_slices_Concat_api_Place_api_Place_L3])
          rw [D_slices_Concat_api_Place_api_Place_L3] at hB17
          refine go hS F ?_
          refine cb F (decide (x1410 < (slices1377.length : Int))) (fun hc18 => ?_) (fun hc18 => ?_)
          · replace hB17 := cond_t hc18 hB17
            try simp only [gd_some, Option.bind_eq_some_iff] at hB17
            obtain ⟨x1412, hn1412, hv19, hv20, hB17⟩ := hB17
            have hq1412 : ∀ d, rowAt (slices1377.map e_Sii) d x1410.toNat = [.sl 2 false (x1412.map e_ii) [.i 0, .i 0]] := rq_Sii hn1412
            have hb1412 := (nth_some hn1412).1
            simp only [I64] at hv20
            replace F := fc hq1412 F
            refine go hS F ?_
            exact backK_n (n, x1410 + 1, l1411 ++ x1412, c1409 + 1 + 1 + 1 + 1) hB17 (Nat.lt_succ_self _) (leF F)
          · replace hB17 := cond_f hc18 hB17
            refine go hS F ?_
            exact cutK_h (l1411, c1409 + 1) (Option.some.inj hB17) (leF F)
      · rintro ⟨l1418, c1417⟩ hz21
        subst hz21
        try simp only at h
        obtain rfl := Option.some.inj h
        refine go hS F ?_
        exact fin F
    · replace h := cond_f hc12 h
      refine go hS F ?_
      refine awp_claimEk 1000001 6 2 [.i 0, .i 0] (by show (6 : Nat) < 36; omega) (by omega) (by simp only [go_sem, seval, F] <;> eq_refl) ?_
      try simp only [gd_some, Option.bind_eq_some_iff] at h
      obtain ⟨o1437, hL22, h⟩ := h
      refine go hS F ?_
      refine awp_cut (fun z : (List (Int × Int)) × Nat => ⟨[(6, .own (1000001, c1389 + 1 + 1 + 1 + 1 + 1 + 1 + 1 + 1 + 1) z.1.length)], [(.a (1000001, c1389 + 1 + 1 + 1 + 1 + 1 + 1 + 1 + 1 + 1), .sl 2 true (z.1.map e_ii) [.i 0, .i 0])], z.2⟩) (fun z => (z.1 : (List (Int × Int))) = o1437) (.x 2) ?_ ?_
      · refine awp_loop (fun y : Nat × Int × (List (Int × Int)) × Nat => ⟨[(6, .own (1000001, c1389 + 1 + 1 + 1 + 1 + 1 + 1 + 1 + 1 + 1) y.2.2.1.length), (25, .sl 1 false (slices1377.map e_Sii) [.sl 0 true [] []]), (26, .i (slices1377.length : Int)), (27, .i y.2.1)], [(.a (1000001, c1389 + 1 + 1 + 1 + 1 + 1 + 1 + 1 + 1 + 1), .sl 2 true (y.2.2.1.map e_ii) [.i 0, .i 0])], y.2.2.2⟩) (fun y => D_slices_Concat_api_Place_api_Place_L5 N slices1377 y.1 y.2.1 y.2.2.1 = some o1437) (fun y => y.1) (N, 0, [], c1389 + 1 + 1 + 1 + 1 + 1 + 1 + 1 + 1 + 1) hL22 ?_ ?_
        · exact leF F
        · rintro ⟨n, x1428, l1429, c1427⟩ hB23
          try simp only at hB23
          obtain _ | n := n
          · exact absurd hB23 (by simp [D_slices_Concat_api_Place_api_Place_L5])
          rw [D_slices_Concat_api_Place_api_Place_L5] at hB23
          refine go hS F ?_
          refine cb F (decide (x1428 < (slices1377.length : Int))) (fun hc24 => ?_) (fun hc24 => ?_)
          · replace hB23 := cond_t hc24 hB23
            try simp only [gd_some, Option.bind_eq_some_iff] at hB23
            obtain ⟨x1430, hn1430, hv25, hv26, hB23⟩ := hB23
            have hq1430 : ∀ d, rowAt (slices1377.map e_Sii) d x1428.toNat = [.sl 2 false (x1430.map e_ii) [.i 0, .i 0]] := rq_Sii hn1430
            have hb1430 := (nth_some hn1430).1
            simp only [I64] at hv26
            replace F := fc hq1430 F
            refine go hS F ?_
            exact backK_n (n, x1428 + 1, l1429 ++ x1430, c1427 + 1 + 1 + 1 + 1) hB23 (Nat.lt_succ_self _) (leF F)
          · replace hB23 := cond_f hc24 hB23
            refine go hS F ?_
            exact cutK_h (l1429, c1427 + 1) (Option.some.inj hB23) (leF F)
      · rintro ⟨l1436, c1435⟩ hz27
        subst hz27
        try simp only at h
        obtain rfl := Option.some.inj h
        refine go hS F ?_
        exact fin F
end

def s54 (N : Nat) : Spec
  | [.sl yslices1377 _ slices1377 _] => some (((yslices1377 = 1 ∨ slices1377 = []) ∧ slices1377 = (slices1377.map d_Sii).map e_Sii) ∧ (D_slices_Concat_api_Place_api_Place N (slices1377.map d_Sii)).isSome = true, .sl 2 false (((D_slices_Concat_api_Place_api_Place N (slices1377.map d_Sii)).getD []).map e_ii) [.i 0, .i 0])
  | _ => none
theorem fok54 (N : Nat) : FOK Try.prog 54 (s54 N) := ⟨of54, by
  intro args vc r h hv
  unfold s54 at h
  split at h
  · cases h
    obtain ⟨⟨hy0, hr0⟩, hs⟩ := hv
    obtain ⟨r, hr⟩ := Option.isSome_iff_exists.1 hs
    have hk := D_slices_Concat_api_Place_api_Place_ok N _ r hr
    simp only [hr, Option.getD_some]
    refine PCall.arg ?_ hk
    simp only [wkL, wk, and_true, true_and, Bool.false_eq_true, false_implies, implies_true]
    repeat' (first | exact True.intro | assumption | apply And.intro)
  · simp at h⟩
end Go.Proofs.Ytojciffnkbfbhaa.Am
