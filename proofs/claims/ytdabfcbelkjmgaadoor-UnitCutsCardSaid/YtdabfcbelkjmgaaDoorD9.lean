import Derived.Test.YtdabfcbelkjmgaaDoorD1
namespace Go.Proofs.YtdabfcbelkjmgaaDoor.Am
open Go
attribute [local irreducible] awp seqK blkK backK endK inlK restK rngK asgK itK
set_option maxRecDepth 100000
set_option maxHeartbeats 8000000
set_option linter.unusedSimpArgs false
set_option linter.unusedVariables false
def e_Sii (x : List (Int × Int)) : List AV := [.sl 2 false (x.map e_ii) [.i 0, .i 0]]
def d_Sii : List AV → List (Int × Int)
  | [.sl _ _ a1 _] => (a1.map d_ii)
  | _ => []
theorem d1_Sii (x : List (Int × Int)) : d_Sii (e_Sii x) = x := by simp only [e_Sii, d_Sii, de_ii]
theorem de_Sii (R : List (List (Int × Int))) : (R.map e_Sii).map d_Sii = R := by
  induction R with
  | nil => rfl
  | cons r R ih => rw [List.map_cons, List.map_cons, ih, d1_Sii]

theorem rq_Sii {R : List (List (Int × Int))} {i : Int} {x : (List (Int × Int))} (h : nth R i = some x) (d : List AV) : rowAt (R.map e_Sii) d i.toNat = e_Sii x := by
  unfold nth at h
  split at h
  · unfold rowAt; rw [List.getD_eq_getElem?_getD, List.getElem?_map, h]; rfl
  · cases h
/-! slices.Concat   putlog/api.Place putlog/api.Place  -/
def D_slices_Concat_api_Place_api_Place_L1 (N : Nat) (slices128 : List (List (Int × Int))) : Nat → Int → Int → Option Int
  | 0, _, _ => none
  | n + 1, size133, x134 =>
    bif decide (x134 < (slices128.length : Int)) then (
      (nth slices128 x134).bind fun x135 =>
      gd (I64 (size133 + (x135.length : Int))) <|
      gd ((decide (size133 + (x135.length : Int) < 0)) = false) <|
      gd (I64 (x134 + 1)) <|
      D_slices_Concat_api_Place_api_Place_L1 N slices128 n (size133 + (x135.length : Int)) (x134 + 1))
    else (
      some size133)

def D_slices_Concat_api_Place_api_Place_L3 (N : Nat) (slices128 : List (List (Int × Int))) : Nat → Int → (List (Int × Int)) → Option ((List (Int × Int)))
  | 0, _, _ => none
  | n + 1, x161, l162 =>
    bif decide (x161 < (slices128.length : Int)) then (
      (nth slices128 x161).bind fun x163 =>
      gd ((l162.length + x163.length) * 16 ≤ 140737488355328) <|
      gd (I64 (x161 + 1)) <|
      D_slices_Concat_api_Place_api_Place_L3 N slices128 n (x161 + 1) (l162 ++ x163))
    else (
      some l162)

def D_slices_Concat_api_Place_api_Place_L5 (N : Nat) (slices128 : List (List (Int × Int))) : Nat → Int → (List (Int × Int)) → Option ((List (Int × Int)))
  | 0, _, _ => none
  | n + 1, x179, l180 =>
    bif decide (x179 < (slices128.length : Int)) then (
      (nth slices128 x179).bind fun x181 =>
      gd ((l180.length + x181.length) * 16 ≤ 140737488355328) <|
      gd (I64 (x179 + 1)) <|
      D_slices_Concat_api_Place_api_Place_L5 N slices128 n (x179 + 1) (l180 ++ x181))
    else (
      some l180)

def D_slices_Concat_api_Place_api_Place (N : Nat) (slices128 : List (List (Int × Int))) : Option (List (Int × Int)) :=
  (D_slices_Concat_api_Place_api_Place_L1 N slices128 N 0 0).bind fun size141 =>
  gd ((decide (size141 < 0)) = false) <|
  gd (I64 (size141 - 0)) <|
  bif decide (0 < size141 - 0) then (
    gd (0 ≤ 0 ∧ 0 ≤ 0 ∧ 0 ≤ 0) <|
    gd (0 < size141 - 0) <|
    gd ((size141 - 0) * 16 ≤ 140737488355328) <|
    (D_slices_Concat_api_Place_api_Place_L3 N slices128 N 0 []).bind fun l169 =>
    some l169)
  else (
    (D_slices_Concat_api_Place_api_Place_L5 N slices128 N 0 []).bind fun l187 =>
    some l187)

def T49 (N : Nat) : List (Nat × Spec) := []
theorem T49_ok (N : Nat) : TabOK Tryd.prog (tabM (T49 N)) := tabM_ok (tab_nil)

section
attribute [local go_sem] T49 e_Sii de_Sii d_Sii e_ii de_ii rb_ii d_ii rowAt_zero rowAt_succ List.set_cons_succ List.isEmpty_map List.map_append List.map_eq_nil_iff ne_eq List.length_replicate takeMap dropMap List.length_set Option.isSome_some
theorem D_slices_Concat_api_Place_api_Place_ok (N : Nat) (slices128 : List (List (Int × Int))) (r : List (Int × Int)) (h : D_slices_Concat_api_Place_api_Place N slices128 = some r) : PCall Tryd.prog 49 [.sl 1 false (slices128.map e_Sii) [.sl 0 true [] []]] (.sl 2 false (r.map e_ii) [.i 0, .i 0]) := by
  refine pcall_fn (T49_ok N) _ Tryd.func49 ok49 nt49 (by simp) fun _ => ?_
  have hS := T49_ok N
  have F := f0
  unfold ac49 rv49
  unfold D_slices_Concat_api_Place_api_Place at h
  try simp only [gd_some, Option.bind_eq_some_iff] at h
  obtain ⟨o142, hL1, h⟩ := h
  refine go hS F ?_
  refine awp_cut (fun z : Int × Nat => ⟨[(0, .sl 1 false (slices128.map e_Sii) [.sl 0 true [] []]), (3, .i z.1)], [], z.2⟩) (fun z => (z.1 : Int) = o142) (.x 0) ?_ ?_
  · refine awp_loop (fun y : Nat × Int × Int × Nat => ⟨[(0, .sl 1 false (slices128.map e_Sii) [.sl 0 true [] []]), (3, .i y.2.1), (9, .sl 1 false (slices128.map e_Sii) [.sl 0 true [] []]), (10, .i (slices128.length : Int)), (11, .i y.2.2.1)], [], y.2.2.2⟩) (fun y => D_slices_Concat_api_Place_api_Place_L1 N slices128 y.1 y.2.1 y.2.2.1 = some o142) (fun y => y.1) (N, 0, 0, 3) hL1 ?_ ?_
    · exact leF F
    · rintro ⟨n, size133, x134, c132⟩ hB2
      try simp only at hB2
      obtain _ | n := n
      · exact absurd hB2 (by simp [D_slices_Concat_api_Place_api_Place_L1])
      rw [D_slices_Concat_api_Place_api_Place_L1] at hB2
      refine go hS F ?_
      refine cb F (decide (x134 < (slices128.length : Int))) (fun hc3 => ?_) (fun hc3 => ?_)
      · replace hB2 := cond_t hc3 hB2
        try simp only [gd_some, Option.bind_eq_some_iff] at hB2
        obtain ⟨x135, hn135, hv4, hv5, hB2⟩ := hB2
        have hq135 : ∀ d, rowAt (slices128.map e_Sii) d x134.toNat = [.sl 2 false (x135.map e_ii) [.i 0, .i 0]] := rq_Sii hn135
        have hb135 := (nth_some hn135).1
        simp only [I64] at hv4
        replace F := fc hq135 F
        refine go hS F ?_
        refine cb F (decide (size133 + (x135.length : Int) < 0)) (fun hc6 => ?_) (fun hc6 => ?_)
        · exact Bool.noConfusion (hc6.symm.trans hv5)
        try simp only [gd_some, Option.bind_eq_some_iff] at hB2
        obtain ⟨hv7, hB2⟩ := hB2
        simp only [I64] at hv7
        refine go hS F ?_
        exact backK_n (n, size133 + (x135.length : Int), x134 + 1, c132 + 1 + 1 + 1 + 1 + 1) hB2 (Nat.lt_succ_self _) (leF F)
      · replace hB2 := cond_f hc3 hB2
        refine go hS F ?_
        exact cutK_h (size133, c132 + 1) (Option.some.inj hB2) (leF F)
  · rintro ⟨size141, c140⟩ hz8
    subst hz8
    try simp only at h
    refine go hS F ?_
    refine awp_inlF hS 1 Tryd.func65 ok65 nt65 of65 rfl (by simp only [go_sem, seval, F] <;> eq_refl) (by simp only [go_sem, seval, F] <;> eq_refl) ?_ rfl (by simp only [go_sem, seval, F] <;> eq_refl) (by simp) fun hb => ?_
    · exact goc hS F
    unfold ac65 rv65
    try simp only [gd_some, Option.bind_eq_some_iff] at h
    obtain ⟨hv9, h⟩ := h
    refine go hS F ?_
    refine cb F (decide (size141 < 0)) (fun hc10 => ?_) (fun hc10 => ?_)
    · exact Bool.noConfusion (hc10.symm.trans hv9)
    try simp only [gd_some, Option.bind_eq_some_iff] at h
    obtain ⟨hv11, h⟩ := h
    simp only [I64] at hv11
    refine go hS F ?_
    refine cb F (decide (0 < size141 - 0)) (fun hc12 => ?_) (fun hc12 => ?_)
    · replace h := cond_t hc12 h
      try simp only [gd_some, Option.bind_eq_some_iff] at h
      obtain ⟨hv13, hv14, hv15, h⟩ := h
      try simp only [gd_some, Option.bind_eq_some_iff] at h
      obtain ⟨o170, hL16, h⟩ := h
      refine go hS F ?_
      refine awp_cut (fun z : (List (Int × Int)) × Nat => ⟨[(6, .own (508, c140 + 1 + 1 + 1 + 1 + 1 + 1) z.1.length)], [(.a (508, c140 + 1 + 1 + 1 + 1 + 1 + 1), .sl 2 true (z.1.map e_ii) [.i 0, .i 0])], z.2⟩) (fun z => (z.1 : (List (Int × Int))) = o170) (.x 2) ?_ ?_
      · refine awp_loop (fun y : Nat × Int × (List (Int × Int)) × Nat => ⟨[(6, .own (508, c140 + 1 + 1 + 1 + 1 + 1 + 1) y.2.2.1.length), (25, .sl 1 false (slices128.map e_Sii) [.sl 0 true [] []]), (26, .i (slices128.length : Int)), (27, .i y.2.1)], [(.a (508, c140 + 1 + 1 + 1 + 1 + 1 + 1), .sl 2 true (y.2.2.1.map e_ii) [.i 0, .i 0])], y.2.2.2⟩) (fun y => D_slices_Concat_api_Place_api_Place_L3 N slices128 y.1 y.2.1 y.2.2.1 = some o170) (fun y => y.1) (N, 0, [], c140 + 1 + 1 + 1 + 1 + 1 + 1 + 1 + 1 + 1) hL16 ?_ ?_
        · exact leF F
        · rintro ⟨n, x161, l162, c160⟩ hB17
          try simp only at hB17
          obtain _ | n := n
          · exact absurd hB17 (by simp [D_slices_Concat_api_Place_api_Place_L3])
          rw [D_slices_Concat_api_Place_api_Place_L3] at hB17
          refine go hS F ?_
          refine cb F (decide (x161 < (slices128.length : Int))) (fun hc18 => ?_) (fun hc18 => ?_)
          · replace hB17 := cond_t hc18 hB17
            try simp only [gd_some, Option.bind_eq_some_iff] at hB17
            obtain ⟨x163, hn163, hv19, hv20, hB17⟩ := hB17
            have hq163 : ∀ d, rowAt (slices128.map e_Sii) d x161.toNat = [.sl 2 false (x163.map e_ii) [.i 0, .i 0]] := rq_Sii hn163
            have hb163 := (nth_some hn163).1
            simp only [I64] at hv20
            replace F := fc hq163 F
            refine go hS F ?_
            exact backK_n (n, x161 + 1, l162 ++ x163, c160 + 1 + 1 + 1 + 1) hB17 (Nat.lt_succ_self _) (leF F)
          · replace hB17 := cond_f hc18 hB17
            refine go hS F ?_
            exact cutK_h (l162, c160 + 1) (Option.some.inj hB17) (leF F)
      · rintro ⟨l169, c168⟩ hz21
        subst hz21
        try simp only at h
        obtain rfl := Option.some.inj h
        refine go hS F ?_
        exact fin F
    · replace h := cond_f hc12 h
      refine go hS F ?_
      refine awp_claimEk 1000001 6 2 [.i 0, .i 0] (by show (6 : Nat) < 36; omega) (by omega) (by simp only [go_sem, seval, F] <;> eq_refl) ?_
      try simp only [gd_some, Option.bind_eq_some_iff] at h
      obtain ⟨o188, hL22, h⟩ := h
      refine go hS F ?_
      refine awp_cut (fun z : (List (Int × Int)) × Nat => ⟨[(6, .own (1000001, c140 + 1 + 1 + 1 + 1 + 1 + 1 + 1 + 1 + 1) z.1.length)], [(.a (1000001, c140 + 1 + 1 + 1 + 1 + 1 + 1 + 1 + 1 + 1), .sl 2 true (z.1.map e_ii) [.i 0, .i 0])], z.2⟩) (fun z => (z.1 : (List (Int × Int))) = o188) (.x 2) ?_ ?_
      · refine awp_loop (fun y : Nat × Int × (List (Int × Int)) × Nat => ⟨[(6, .own (1000001, c140 + 1 + 1 + 1 + 1 + 1 + 1 + 1 + 1 + 1) y.2.2.1.length), (25, .sl 1 false (slices128.map e_Sii) [.sl 0 true [] []]), (26, .i (slices128.length : Int)), (27, .i y.2.1)], [(.a (1000001, c140 + 1 + 1 + 1 + 1 + 1 + 1 + 1 + 1 + 1), .sl 2 true (y.2.2.1.map e_ii) [.i 0, .i 0])], y.2.2.2⟩) (fun y => D_slices_Concat_api_Place_api_Place_L5 N slices128 y.1 y.2.1 y.2.2.1 = some o188) (fun y => y.1) (N, 0, [], c140 + 1 + 1 + 1 + 1 + 1 + 1 + 1 + 1 + 1) hL22 ?_ ?_
        · exact leF F
        · rintro ⟨n, x179, l180, c178⟩ hB23
          try simp only at hB23
          obtain _ | n := n
          · exact absurd hB23 (by simp [D_slices_Concat_api_Place_api_Place_L5])
          rw [D_slices_Concat_api_Place_api_Place_L5] at hB23
          refine go hS F ?_
          refine cb F (decide (x179 < (slices128.length : Int))) (fun hc24 => ?_) (fun hc24 => ?_)
          · replace hB23 := cond_t hc24 hB23
            try simp only [gd_some, Option.bind_eq_some_iff] at hB23
            obtain ⟨x181, hn181, hv25, hv26, hB23⟩ := hB23
            have hq181 : ∀ d, rowAt (slices128.map e_Sii) d x179.toNat = [.sl 2 false (x181.map e_ii) [.i 0, .i 0]] := rq_Sii hn181
            have hb181 := (nth_some hn181).1
            simp only [I64] at hv26
            replace F := fc hq181 F
            refine go hS F ?_
            exact backK_n (n, x179 + 1, l180 ++ x181, c178 + 1 + 1 + 1 + 1) hB23 (Nat.lt_succ_self _) (leF F)
          · replace hB23 := cond_f hc24 hB23
            refine go hS F ?_
            exact cutK_h (l180, c178 + 1) (Option.some.inj hB23) (leF F)
      · rintro ⟨l187, c186⟩ hz27
        subst hz27
        try simp only at h
        obtain rfl := Option.some.inj h
        refine go hS F ?_
        exact fin F
end

def s49 (N : Nat) : Spec
  | [.sl yslices128 _ slices128 _] => some (((yslices128 = 1 ∨ slices128 = []) ∧ slices128 = (slices128.map d_Sii).map e_Sii) ∧ (D_slices_Concat_api_Place_api_Place N (slices128.map d_Sii)).isSome = true, .sl 2 false (((D_slices_Concat_api_Place_api_Place N (slices128.map d_Sii)).getD []).map e_ii) [.i 0, .i 0])
  | _ => none
theorem fok49 (N : Nat) : FOK Tryd.prog 49 (s49 N) := ⟨of49, by
  intro args vc r h hv
  unfold s49 at h
  split at h
  · cases h
    obtain ⟨⟨hy0, hr0⟩, hs⟩ := hv
    obtain ⟨r, hr⟩ := Option.isSome_iff_exists.1 hs
    have hk := D_slices_Concat_api_Place_api_Place_ok N _ r hr
    simp only [hr, Option.getD_some]
    refine PCall.arg ?_ hk
    simp only [wkL, wk, and_true, true_and, Bool.false_eq_true, false_implies, implies_true]
    repeat' (first | exact True.intro | assumption | apply And.intro)
  · simp at h⟩
end Go.Proofs.YtdabfcbelkjmgaaDoor.Am
