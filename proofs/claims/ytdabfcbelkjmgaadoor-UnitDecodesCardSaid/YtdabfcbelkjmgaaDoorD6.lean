import Derived.Test.YtdabfcbelkjmgaaDoorD5
namespace Go.Proofs.YtdabfcbelkjmgaaDoor.Am
open Go
attribute [local irreducible] awp seqK blkK backK endK inlK restK rngK asgK itK
set_option maxRecDepth 100000
set_option maxHeartbeats 8000000
set_option linter.unusedSimpArgs false
set_option linter.unusedVariables false
/-! slices.IndexFunc   putlog/api.Place putlog/api.Place  -/
def D_slices_IndexFunc_api_Place_api_Place_v37_L1 (N : Nat) (s564 : List (Int × Int)) : Nat → Int → Option (Sum Unit Int)
  | 0, _ => none
  | n + 1, x572 =>
    bif decide (x572 < (s564.length : Int)) then (
      (nth s564 x572).bind fun (x573, x574) =>
      (D_plane_isOff N x573 x574).bind fun r576 =>
      bif r576 then (
        some (.inr x572))
      else (
        gd (I64 (x572 + 1)) <|
        D_slices_IndexFunc_api_Place_api_Place_v37_L1 N s564 n (x572 + 1)))
    else (
      some (.inl ()))

def D_slices_IndexFunc_api_Place_api_Place_v37 (N : Nat) (s564 : List (Int × Int)) : Option Int :=
  (D_slices_IndexFunc_api_Place_api_Place_v37_L1 N s564 N 0).bind fun o582 => match o582 with
    | .inl () => (
      some (-1))
    | .inr r581 => (
      some r581)

def T57_v37 (N : Nat) : List (Nat × Spec) := [(37, s37 N)]
theorem T57_v37_ok (N : Nat) : TabOK Tryd.prog (tabOf (T57_v37 N)) := tab_cons (fok37 N) (tab_nil)

section
attribute [local go_sem] T57_v37 s37 e_ii de_ii rb_ii d_ii rowAt_zero rowAt_succ List.set_cons_succ List.isEmpty_map List.map_append List.map_eq_nil_iff ne_eq List.length_replicate takeMap dropMap List.length_set Option.isSome_some
theorem D_slices_IndexFunc_api_Place_api_Place_v37_ok (N : Nat) (s564 : List (Int × Int)) (r : Int) (h : D_slices_IndexFunc_api_Place_api_Place_v37 N s564 = some r) : PCall Tryd.prog 57 [.sl 2 false (s564.map e_ii) [.i 0, .i 0], .clo (.func 37) [] []] (.i r) := by
  refine pcall_fn (T57_v37_ok N) _ Tryd.func57 ok57 nt57 (by simp) fun _ => ?_
  have hS := T57_v37_ok N
  have F := f0
  unfold ac57 rv57
  unfold D_slices_IndexFunc_api_Place_api_Place_v37 at h
  try simp only [gd_some, Option.bind_eq_some_iff] at h
  obtain ⟨o582, hL1, h⟩ := h
  refine go hS F ?_
  refine awp_cut (fun z : Nat => ⟨[], [], z⟩) (fun z => (.inl () : Sum Unit Int) = o582) (.x 0) ?_ ?_
  · refine awp_loop (fun y : Nat × Int × Nat => ⟨[(0, .sl 2 false (s564.map e_ii) [.i 0, .i 0]), (1, .clo (.func 37) [] []), (7, .i (s564.length : Int)), (8, .i y.2.1)], [], y.2.2⟩) (fun y => D_slices_IndexFunc_api_Place_api_Place_v37_L1 N s564 y.1 y.2.1 = some o582) (fun y => y.1) (N, 0, 2) hL1 ?_ ?_
    · exact leF F
    · rintro ⟨n, x572, c571⟩ hB2
      try simp only at hB2
      obtain _ | n := n
      · exact absurd hB2 (by simp [D_slices_IndexFunc_api_Place_api_Place_v37_L1])
      rw [D_slices_IndexFunc_api_Place_api_Place_v37_L1] at hB2
      refine go hS F ?_
      refine cb F (decide (x572 < (s564.length : Int))) (fun hc3 => ?_) (fun hc3 => ?_)
      · replace hB2 := cond_t hc3 hB2
        try simp only [gd_some, Option.bind_eq_some_iff] at hB2
        obtain ⟨⟨x573, x574⟩, hn574, hB2⟩ := hB2
        have hx574 : s564.getD x572.toNat (0, 0) = (x573, x574) := ixs hn574 _
        have hb574 := (nth_some hn574).1
        replace F := fc hx574 F
        try simp only [gd_some, Option.bind_eq_some_iff] at hB2
        obtain ⟨r576, hr576, hB2⟩ := hB2
        replace F := fc hr576 F
        refine go hS F ?_
        refine cb F (r576) (fun hc4 => ?_) (fun hc4 => ?_)
        · replace hB2 := cond_t hc4 hB2
          obtain rfl := Option.some.inj hB2
          try simp only at h
          obtain rfl := Option.some.inj h
          refine go hS F ?_
          exact fin F
        · replace hB2 := cond_f hc4 hB2
          try simp only [gd_some, Option.bind_eq_some_iff] at hB2
          obtain ⟨hv5, hB2⟩ := hB2
          simp only [I64] at hv5
          refine go hS F ?_
          exact backK_n (n, x572 + 1, c571 + 1 + 1 + 1 + 1) hB2 (Nat.lt_succ_self _) (leF F)
      · replace hB2 := cond_f hc3 hB2
        refine go hS F ?_
        exact cutK_h (c571 + 1) (Option.some.inj hB2) (leF F)
  · rintro c580 hz6
    subst hz6
    try simp only at h
    obtain rfl := Option.some.inj h
    refine go hS F ?_
    exact fin F
end

def s57_v37 (N : Nat) : Spec
  | [.sl ys564 _ s564 _, .clo (.func 37) [] []] => some (((ys564 = 2 ∨ s564 = []) ∧ s564 = (s564.map d_ii).map e_ii) ∧ (D_slices_IndexFunc_api_Place_api_Place_v37 N (s564.map d_ii)).isSome = true, .i ((D_slices_IndexFunc_api_Place_api_Place_v37 N (s564.map d_ii)).getD 0))
  | _ => none
theorem fok57_v37 (N : Nat) : FOK Tryd.prog 57 (s57_v37 N) := ⟨of57, by
  intro args vc r h hv
  unfold s57_v37 at h
  split at h
  · cases h
    obtain ⟨⟨hy0, hr0⟩, hs⟩ := hv
    obtain ⟨r, hr⟩ := Option.isSome_iff_exists.1 hs
    have hk := D_slices_IndexFunc_api_Place_api_Place_v37_ok N _ r hr
    simp only [hr, Option.getD_some]
    refine PCall.arg ?_ hk
    simp only [wkL, wk, and_true, true_and, Bool.false_eq_true, false_implies, implies_true]
    repeat' (first | exact True.intro | assumption | apply And.intro)
  · simp at h⟩

/-! slices.ContainsFunc   putlog/api.Place putlog/api.Place  -/
def D_slices_ContainsFunc_api_Place_api_Place_v37 (N : Nat) (s583 : List (Int × Int)) : Option Bool :=
  (D_slices_IndexFunc_api_Place_api_Place_v37 N s583).bind fun r584 =>
  some (decide (0 ≤ r584))

def T36_v37 (N : Nat) : List (Nat × Spec) := [(57, s57_v37 N)]
theorem T36_v37_ok (N : Nat) : TabOK Tryd.prog (tabOf (T36_v37 N)) := tab_cons (fok57_v37 N) (tab_nil)

section
attribute [local go_sem] T36_v37 s57_v37 e_ii de_ii rb_ii d_ii rowAt_zero rowAt_succ List.set_cons_succ List.isEmpty_map List.map_append List.map_eq_nil_iff ne_eq List.length_replicate takeMap dropMap List.length_set Option.isSome_some
theorem D_slices_ContainsFunc_api_Place_api_Place_v37_ok (N : Nat) (s583 : List (Int × Int)) (r : Bool) (h : D_slices_ContainsFunc_api_Place_api_Place_v37 N s583 = some r) : PCall Tryd.prog 36 [.sl 2 false (s583.map e_ii) [.i 0, .i 0], .clo (.func 37) [] []] (.b r) := by
  refine pcall_fn (T36_v37_ok N) _ Tryd.func36 ok36 nt36 (by simp) fun _ => ?_
  have hS := T36_v37_ok N
  have F := f0
  unfold ac36 rv36
  unfold D_slices_ContainsFunc_api_Place_api_Place_v37 at h
  try simp only [gd_some, Option.bind_eq_some_iff] at h
  obtain ⟨r584, hr584, h⟩ := h
  replace F := fc hr584 F
  obtain rfl := Option.some.inj h
  refine go hS F ?_
  exact fin F
end

def s36_v37 (N : Nat) : Spec
  | [.sl ys583 _ s583 _, .clo (.func 37) [] []] => some (((ys583 = 2 ∨ s583 = []) ∧ s583 = (s583.map d_ii).map e_ii) ∧ (D_slices_ContainsFunc_api_Place_api_Place_v37 N (s583.map d_ii)).isSome = true, .b ((D_slices_ContainsFunc_api_Place_api_Place_v37 N (s583.map d_ii)).getD false))
  | _ => none
theorem fok36_v37 (N : Nat) : FOK Tryd.prog 36 (s36_v37 N) := ⟨of36, by
  intro args vc r h hv
  unfold s36_v37 at h
  split at h
  · cases h
    obtain ⟨⟨hy0, hr0⟩, hs⟩ := hv
    obtain ⟨r, hr⟩ := Option.isSome_iff_exists.1 hs
    have hk := D_slices_ContainsFunc_api_Place_api_Place_v37_ok N _ r hr
    simp only [hr, Option.getD_some]
    refine PCall.arg ?_ hk
    simp only [wkL, wk, and_true, true_and, Bool.false_eq_true, false_implies, implies_true]
    repeat' (first | exact True.intro | assumption | apply And.intro)
  · simp at h⟩

/-! putlog/plane.first$1 -/
def D_plane_first_1 (N : Nat) (p586 : Int) (p587 : Int) (x588 : Int) (x589 : Int) (x590 : Int) (x591 : Int) : Option Bool :=
  (D_plane_turn N x588 x589 x590 x591 p586 p587).bind fun r592 =>
  some (decide (0 < r592))

def T84 (N : Nat) : List (Nat × Spec) := [(56, s56 N)]
theorem T84_ok (N : Nat) : TabOK Tryd.prog (tabOf (T84 N)) := tab_cons (fok56 N) (tab_nil)

section
attribute [local go_sem] T84 s56 rowAt_zero rowAt_succ List.set_cons_succ List.isEmpty_map List.map_append List.map_eq_nil_iff ne_eq List.length_replicate takeMap dropMap List.length_set Option.isSome_some
theorem D_plane_first_1_ok (N : Nat) (p586 : Int) (p587 : Int) (x588 : Int) (x589 : Int) (x590 : Int) (x591 : Int) (r : Bool) (h : D_plane_first_1 N p586 p587 x588 x589 x590 x591 = some r) : PCall Tryd.prog 84 [.agg [.i p586, .i p587], .ro [.i x588, .i x589] 0, .ro [.i x590, .i x591] 0] (.b r) := by
  refine pcall_fn (T84_ok N) _ Tryd.func84 ok84 nt84 (by simp) fun _ => ?_
  have hS := T84_ok N
  have F := f0
  unfold ac84 rv84
  unfold D_plane_first_1 at h
  try simp only [gd_some, Option.bind_eq_some_iff] at h
  obtain ⟨r592, hr592, h⟩ := h
  replace F := fc hr592 F
  obtain rfl := Option.some.inj h
  refine go hS F ?_
  exact fin F
end

def s84 (N : Nat) : Spec
  | [.agg [.v (.int .i64 p586), .v (.int .i64 p587)], .ro [.v (.int .i64 x588), .v (.int .i64 x589)] 0, .ro [.v (.int .i64 x590), .v (.int .i64 x591)] 0] => some ((D_plane_first_1 N p586 p587 x588 x589 x590 x591).isSome = true, .b ((D_plane_first_1 N p586 p587 x588 x589 x590 x591).getD false))
  | _ => none
theorem fok84 (N : Nat) : FOK Tryd.prog 84 (s84 N) := ⟨of84, by
  intro args vc r h hv
  unfold s84 at h
  split at h
  · cases h
    have hs := hv
    obtain ⟨r, hr⟩ := Option.isSome_iff_exists.1 hs
    have hk := D_plane_first_1_ok N _ _ _ _ _ _ r hr
    simp only [hr, Option.getD_some]
    refine PCall.arg ?_ hk
    simp only [wkL, wk, and_true, true_and, Bool.false_eq_true, false_implies, implies_true]
    try trivial
  · simp at h⟩

/-! slices.IndexFunc   putlog/api.Place putlog/api.Place  -/
def D_slices_IndexFunc_api_Place_api_Place_v84_L1 (N : Nat) (s594 : List (Int × Int)) (f595 : Int) (f596 : Int) (f597 : Int) (f598 : Int) : Nat → Int → Option (Sum Unit Int)
  | 0, _ => none
  | n + 1, x606 =>
    bif decide (x606 < (s594.length : Int)) then (
      (nth s594 x606).bind fun (x607, x608) =>
      (D_plane_first_1 N x607 x608 f595 f596 f597 f598).bind fun r610 =>
      bif r610 then (
        some (.inr x606))
      else (
        gd (I64 (x606 + 1)) <|
        D_slices_IndexFunc_api_Place_api_Place_v84_L1 N s594 f595 f596 f597 f598 n (x606 + 1)))
    else (
      some (.inl ()))

def D_slices_IndexFunc_api_Place_api_Place_v84 (N : Nat) (s594 : List (Int × Int)) (f595 : Int) (f596 : Int) (f597 : Int) (f598 : Int) : Option Int :=
  (D_slices_IndexFunc_api_Place_api_Place_v84_L1 N s594 f595 f596 f597 f598 N 0).bind fun o616 => match o616 with
    | .inl () => (
      some (-1))
    | .inr r615 => (
      some r615)

def T57_v84 (N : Nat) : List (Nat × Spec) := [(84, s84 N)]
theorem T57_v84_ok (N : Nat) : TabOK Tryd.prog (tabOf (T57_v84 N)) := tab_cons (fok84 N) (tab_nil)

section
attribute [local go_sem] T57_v84 s84 e_ii de_ii rb_ii d_ii rowAt_zero rowAt_succ List.set_cons_succ List.isEmpty_map List.map_append List.map_eq_nil_iff ne_eq List.length_replicate takeMap dropMap List.length_set Option.isSome_some
theorem D_slices_IndexFunc_api_Place_api_Place_v84_ok (N : Nat) (s594 : List (Int × Int)) (f595 : Int) (f596 : Int) (f597 : Int) (f598 : Int) (r : Int) (h : D_slices_IndexFunc_api_Place_api_Place_v84 N s594 f595 f596 f597 f598 = some r) : PCall Tryd.prog 57 [.sl 2 false (s594.map e_ii) [.i 0, .i 0], .clo (.func 84) [] [.ro [.i f595, .i f596] 0, .ro [.i f597, .i f598] 0]] (.i r) := by
  refine pcall_fn (T57_v84_ok N) _ Tryd.func57 ok57 nt57 (by simp) fun _ => ?_
  have hS := T57_v84_ok N
  have F := f0
  unfold ac57 rv57
  unfold D_slices_IndexFunc_api_Place_api_Place_v84 at h
  try simp only [gd_some, Option.bind_eq_some_iff] at h
  obtain ⟨o616, hL1, h⟩ := h
  refine go hS F ?_
  refine awp_cut (fun z : Nat => ⟨[], [], z⟩) (fun z => (.inl () : Sum Unit Int) = o616) (.x 0) ?_ ?_
  · refine awp_loop (fun y : Nat × Int × Nat => ⟨[(0, .sl 2 false (s594.map e_ii) [.i 0, .i 0]), (1, .clo (.func 84) [] [.ro [.i f595, .i f596] 0, .ro [.i f597, .i f598] 0]), (7, .i (s594.length : Int)), (8, .i y.2.1)], [], y.2.2⟩) (fun y => D_slices_IndexFunc_api_Place_api_Place_v84_L1 N s594 f595 f596 f597 f598 y.1 y.2.1 = some o616) (fun y => y.1) (N, 0, 2) hL1 ?_ ?_
    · exact leF F
    · rintro ⟨n, x606, c605⟩ hB2
      try simp only at hB2
      obtain _ | n := n
      · exact absurd hB2 (by simp [D_slices_IndexFunc_api_Place_api_Place_v84_L1])
      rw [D_slices_IndexFunc_api_Place_api_Place_v84_L1] at hB2
      refine go hS F ?_
      refine cb F (decide (x606 < (s594.length : Int))) (fun hc3 => ?_) (fun hc3 => ?_)
      · replace hB2 := cond_t hc3 hB2
        try simp only [gd_some, Option.bind_eq_some_iff] at hB2
        obtain ⟨⟨x607, x608⟩, hn608, hB2⟩ := hB2
        have hx608 : s594.getD x606.toNat (0, 0) = (x607, x608) := ixs hn608 _
        have hb608 := (nth_some hn608).1
        replace F := fc hx608 F
        try simp only [gd_some, Option.bind_eq_some_iff] at hB2
        obtain ⟨r610, hr610, hB2⟩ := hB2
        replace F := fc hr610 F
        refine go hS F ?_
        refine cb F (r610) (fun hc4 => ?_) (fun hc4 => ?_)
        · replace hB2 := cond_t hc4 hB2
          obtain rfl := Option.some.inj hB2
          try simp only at h
          obtain rfl := Option.some.inj h
          refine go hS F ?_
          exact fin F
        · replace hB2 := cond_f hc4 hB2
          try simp only [gd_some, Option.bind_eq_some_iff] at hB2
          obtain ⟨hv5, hB2⟩ := hB2
          simp only [I64] at hv5
          refine go hS F ?_
          exact backK_n (n, x606 + 1, c605 + 1 + 1 + 1 + 1) hB2 (Nat.lt_succ_self _) (leF F)
      · replace hB2 := cond_f hc3 hB2
        refine go hS F ?_
        exact cutK_h (c605 + 1) (Option.some.inj hB2) (leF F)
  · rintro c614 hz6
    subst hz6
    try simp only at h
    obtain rfl := Option.some.inj h
    refine go hS F ?_
    exact fin F
end

def s57_v84 (N : Nat) : Spec
  | [.sl ys594 _ s594 _, .clo (.func 84) [] [.ro [.v (.int .i64 f595), .v (.int .i64 f596)] 0, .ro [.v (.int .i64 f597), .v (.int .i64 f598)] 0]] => some (((ys594 = 2 ∨ s594 = []) ∧ s594 = (s594.map d_ii).map e_ii) ∧ (D_slices_IndexFunc_api_Place_api_Place_v84 N (s594.map d_ii) f595 f596 f597 f598).isSome = true, .i ((D_slices_IndexFunc_api_Place_api_Place_v84 N (s594.map d_ii) f595 f596 f597 f598).getD 0))
  | _ => none
theorem fok57_v84 (N : Nat) : FOK Tryd.prog 57 (s57_v84 N) := ⟨of57, by
  intro args vc r h hv
  unfold s57_v84 at h
  split at h
  · cases h
    obtain ⟨⟨hy0, hr0⟩, hs⟩ := hv
    obtain ⟨r, hr⟩ := Option.isSome_iff_exists.1 hs
    have hk := D_slices_IndexFunc_api_Place_api_Place_v84_ok N _ _ _ _ _ r hr
    simp only [hr, Option.getD_some]
    refine PCall.arg ?_ hk
    simp only [wkL, wk, and_true, true_and, Bool.false_eq_true, false_implies, implies_true]
    repeat' (first | exact True.intro | assumption | apply And.intro)
  · simp at h⟩

/-! slices.ContainsFunc   putlog/api.Place putlog/api.Place  -/
def D_slices_ContainsFunc_api_Place_api_Place_v84 (N : Nat) (s617 : List (Int × Int)) (f618 : Int) (f619 : Int) (f620 : Int) (f621 : Int) : Option Bool :=
  (D_slices_IndexFunc_api_Place_api_Place_v84 N s617 f618 f619 f620 f621).bind fun r622 =>
  some (decide (0 ≤ r622))

def T36_v84 (N : Nat) : List (Nat × Spec) := [(57, s57_v84 N)]
theorem T36_v84_ok (N : Nat) : TabOK Tryd.prog (tabOf (T36_v84 N)) := tab_cons (fok57_v84 N) (tab_nil)

section
attribute [local go_sem] T36_v84 s57_v84 e_ii de_ii rb_ii d_ii rowAt_zero rowAt_succ List.set_cons_succ List.isEmpty_map List.map_append List.map_eq_nil_iff ne_eq List.length_replicate takeMap dropMap List.length_set Option.isSome_some
theorem D_slices_ContainsFunc_api_Place_api_Place_v84_ok (N : Nat) (s617 : List (Int × Int)) (f618 : Int) (f619 : Int) (f620 : Int) (f621 : Int) (r : Bool) (h : D_slices_ContainsFunc_api_Place_api_Place_v84 N s617 f618 f619 f620 f621 = some r) : PCall Tryd.prog 36 [.sl 2 false (s617.map e_ii) [.i 0, .i 0], .clo (.func 84) [] [.ro [.i f618, .i f619] 0, .ro [.i f620, .i f621] 0]] (.b r) := by
  refine pcall_fn (T36_v84_ok N) _ Tryd.func36 ok36 nt36 (by simp) fun _ => ?_
  have hS := T36_v84_ok N
  have F := f0
  unfold ac36 rv36
  unfold D_slices_ContainsFunc_api_Place_api_Place_v84 at h
  try simp only [gd_some, Option.bind_eq_some_iff] at h
  obtain ⟨r622, hr622, h⟩ := h
  replace F := fc hr622 F
  obtain rfl := Option.some.inj h
  refine go hS F ?_
  exact fin F
end

def s36_v84 (N : Nat) : Spec
  | [.sl ys617 _ s617 _, .clo (.func 84) [] [.ro [.v (.int .i64 f618), .v (.int .i64 f619)] 0, .ro [.v (.int .i64 f620), .v (.int .i64 f621)] 0]] => some (((ys617 = 2 ∨ s617 = []) ∧ s617 = (s617.map d_ii).map e_ii) ∧ (D_slices_ContainsFunc_api_Place_api_Place_v84 N (s617.map d_ii) f618 f619 f620 f621).isSome = true, .b ((D_slices_ContainsFunc_api_Place_api_Place_v84 N (s617.map d_ii) f618 f619 f620 f621).getD false))
  | _ => none
theorem fok36_v84 (N : Nat) : FOK Tryd.prog 36 (s36_v84 N) := ⟨of36, by
  intro args vc r h hv
  unfold s36_v84 at h
  split at h
  · cases h
    obtain ⟨⟨hy0, hr0⟩, hs⟩ := hv
    obtain ⟨r, hr⟩ := Option.isSome_iff_exists.1 hs
    have hk := D_slices_ContainsFunc_api_Place_api_Place_v84_ok N _ _ _ _ _ r hr
    simp only [hr, Option.getD_some]
    refine PCall.arg ?_ hk
    simp only [wkL, wk, and_true, true_and, Bool.false_eq_true, false_implies, implies_true]
    repeat' (first | exact True.intro | assumption | apply And.intro)
  · simp at h⟩

/-! putlog/plane.Valid -/
def D_plane_Valid_L3 (N : Nat) (l624 : List (Int × Int)) (x641 : Int) (x642 : Int) (x643 : Int) : Nat → Int → Option (Sum Unit Bool)
  | 0, _ => none
  | n + 1, x650 =>
    bif decide (x650 < (l624.length : Int)) then (
      (nth l624 x650).bind fun (x651, x652) =>
      gd (((decide (x650 ≠ x641)) && (decide (x650 ≠ (x641 + 1).tmod (l624.length : Int)))) = true → (0 ≤ (x641 + 1).tmod (l624.length : Int) ∧ (x641 + 1).tmod (l624.length : Int) < (l624.length : Int))) <|
      gd (((decide (x650 ≠ x641)) && (decide (x650 ≠ (x641 + 1).tmod (l624.length : Int)))) = true → ((D_plane_turn N x642 x643 ((l624.getD ((x641 + 1).tmod (l624.length : Int)).toNat (0, 0)).1) ((l624.getD ((x641 + 1).tmod (l624.length : Int)).toNat (0, 0)).2) x651 x652).isSome = true)) <|
      bif ((decide (x650 ≠ x641)) && (decide (x650 ≠ (x641 + 1).tmod (l624.length : Int)))) && (decide ((D_plane_turn N x642 x643 ((l624.getD ((x641 + 1).tmod (l624.length : Int)).toNat (0, 0)).1) ((l624.getD ((x641 + 1).tmod (l624.length : Int)).toNat (0, 0)).2) x651 x652).getD 0 ≤ 0)) then (
        some (.inr false))
      else (
        gd (I64 (x650 + 1)) <|
        D_plane_Valid_L3 N l624 x641 x642 x643 n (x650 + 1)))
    else (
      some (.inl ()))

def D_plane_Valid_L1 (N : Nat) (l624 : List (Int × Int)) : Nat → Int → Option (Sum Unit Bool)
  | 0, _ => none
  | n + 1, x641 =>
    bif decide (x641 < (l624.length : Int)) then (
      (nth l624 x641).bind fun (x642, x643) =>
      gd (I64 (x641 + 1)) <|
      gd ((l624.length : Int) ≠ 0) <|
      (D_plane_Valid_L3 N l624 x641 x642 x643 N 0).bind fun o658 => match o658 with
        | .inl () => (
          gd (I64 (x641 + 1)) <|
          D_plane_Valid_L1 N l624 n (x641 + 1))
        | .inr r657 => (
          some (.inr r657)))
    else (
      some (.inl ()))

def D_plane_Valid (N : Nat) (l624 : List (Int × Int)) : Option Bool :=
  gd ((!((decide ((l624.length : Int) < 3)) || (decide (8 < (l624.length : Int))))) = true → ((D_slices_ContainsFunc_api_Place_api_Place_v37 N l624).isSome = true)) <|
  bif ((decide ((l624.length : Int) < 3)) || (decide (8 < (l624.length : Int)))) || ((D_slices_ContainsFunc_api_Place_api_Place_v37 N l624).getD false) then (
    some false)
  else (
    (D_plane_Valid_L1 N l624 N 0).bind fun o663 => match o663 with
      | .inl () => (
        some true)
      | .inr r662 => (
        some r662))

def T34 (N : Nat) : List (Nat × Spec) := [(36, s36_v37 N), (56, s56 N)]
theorem T34_ok (N : Nat) : TabOK Tryd.prog (tabOf (T34 N)) := tab_cons (fok36_v37 N) (tab_cons (fok56 N) (tab_nil))

section
attribute [local go_sem] T34 s36_v37 s56 e_ii de_ii rb_ii d_ii rowAt_zero rowAt_succ List.set_cons_succ List.isEmpty_map List.map_append List.map_eq_nil_iff ne_eq List.length_replicate takeMap dropMap List.length_set Option.isSome_some
theorem D_plane_Valid_ok (N : Nat) (l624 : List (Int × Int)) (r : Bool) (h : D_plane_Valid N l624 = some r) : PCall Tryd.prog 34 [.sl 2 false (l624.map e_ii) [.i 0, .i 0]] (.b r) := by
  refine pcall_fn (T34_ok N) _ Tryd.func34 ok34 nt34 (by simp) fun _ => ?_
  have hS := T34_ok N
  have F := f0
  unfold ac34 rv34
  unfold D_plane_Valid at h
  try simp only [gd_some, Option.bind_eq_some_iff] at h
  obtain ⟨hv1, h⟩ := h
  refine go hS F ?_
  refine cb F (((decide ((l624.length : Int) < 3)) || (decide (8 < (l624.length : Int)))) || ((D_slices_ContainsFunc_api_Place_api_Place_v37 N l624).getD false)) (fun hc2 => ?_) (fun hc2 => ?_)
  · replace h := cond_t hc2 h
    obtain rfl := Option.some.inj h
    refine go hS F ?_
    exact fin F
  · replace h := cond_f hc2 h
    try simp only [gd_some, Option.bind_eq_some_iff] at h
    obtain ⟨o663, hL3, h⟩ := h
    refine go hS F ?_
    refine awp_cut (fun z : Nat => ⟨[], [], z⟩) (fun z => (.inl () : Sum Unit Bool) = o663) (.x 0) ?_ ?_
    · refine awp_loop (fun y : Nat × Int × Nat => ⟨[(0, .sl 2 false (l624.map e_ii) [.i 0, .i 0]), (20, .sl 2 false (l624.map e_ii) [.i 0, .i 0]), (21, .i (l624.length : Int)), (22, .i y.2.1)], [], y.2.2⟩) (fun y => D_plane_Valid_L1 N l624 y.1 y.2.1 = some o663) (fun y => y.1) (N, 0, 3) hL3 ?_ ?_
      · exact leF F
      · rintro ⟨n, x641, c640⟩ hB4
        try simp only at hB4
        obtain _ | n := n
        · exact absurd hB4 (by simp [D_plane_Valid_L1])
        rw [D_plane_Valid_L1] at hB4
        refine go hS F ?_
        refine cb F (decide (x641 < (l624.length : Int))) (fun hc5 => ?_) (fun hc5 => ?_)
        · replace hB4 := cond_t hc5 hB4
          try simp only [gd_some, Option.bind_eq_some_iff] at hB4
          obtain ⟨⟨x642, x643⟩, hn643, hB4⟩ := hB4
          have hx643 : l624.getD x641.toNat (0, 0) = (x642, x643) := ixs hn643 _
          have hb643 := (nth_some hn643).1
          replace F := fc hx643 F
          try simp only [gd_some, Option.bind_eq_some_iff] at hB4
          obtain ⟨hv6, hv7, hB4⟩ := hB4
          simp only [I64] at hv6
          try simp only [gd_some, Option.bind_eq_some_iff] at hB4
          obtain ⟨o658, hL8, hB4⟩ := hB4
          refine go hS F ?_
          refine awp_cut (fun z : Nat => ⟨[(0, .sl 2 false (l624.map e_ii) [.i 0, .i 0]), (20, .sl 2 false (l624.map e_ii) [.i 0, .i 0]), (21, .i (l624.length : Int)), (22, .i x641)], [], z⟩) (fun z => (.inl () : Sum Unit Bool) = o658) (.x 2) ?_ ?_
          · refine awp_loop (fun y : Nat × Int × Nat => ⟨[(0, .sl 2 false (l624.map e_ii) [.i 0, .i 0]), (3, .i x641), (4, .box (503, c640 + 1 + 1) 0), (5, .i ((x641 + 1).tmod (l624.length : Int))), (20, .sl 2 false (l624.map e_ii) [.i 0, .i 0]), (21, .i (l624.length : Int)), (22, .i x641), (32, .sl 2 false (l624.map e_ii) [.i 0, .i 0]), (33, .i (l624.length : Int)), (34, .i y.2.1)], [(.c (503, c640 + 1 + 1) 0, .i x642), (.c (503, c640 + 1 + 1) 1, .i x643)], y.2.2⟩) (fun y => D_plane_Valid_L3 N l624 x641 x642 x643 y.1 y.2.1 = some o658) (fun y => y.1) (N, 0, c640 + 1 + 1 + 1 + 1) hL8 ?_ ?_
            · exact leF F
            · rintro ⟨n, x650, c649⟩ hB9
              try simp only at hB9
              obtain _ | n := n
              · exact absurd hB9 (by simp [D_plane_Valid_L3])
              rw [D_plane_Valid_L3] at hB9
              refine go hS F ?_
              refine cb F (decide (x650 < (l624.length : Int))) (fun hc10 => ?_) (fun hc10 => ?_)
              · replace hB9 := cond_t hc10 hB9
                try simp only [gd_some, Option.bind_eq_some_iff] at hB9
                obtain ⟨⟨x651, x652⟩, hn652, hB9⟩ := hB9
                have hx652 : l624.getD x650.toNat (0, 0) = (x651, x652) := ixs hn652 _
                have hb652 := (nth_some hn652).1
                replace F := fc hx652 F
                try simp only [gd_some, Option.bind_eq_some_iff] at hB9
                obtain ⟨hv11, hv12, hB9⟩ := hB9
                refine go hS F ?_
                refine cb F (((decide (x650 ≠ x641)) && (decide (x650 ≠ (x641 + 1).tmod (l624.length : Int)))) && (decide ((D_plane_turn N x642 x643 ((l624.getD ((x641 + 1).tmod (l624.length : Int)).toNat (0, 0)).1) ((l624.getD ((x641 + 1).tmod (l624.length : Int)).toNat (0, 0)).2) x651 x652).getD 0 ≤ 0))) (fun hc13 => ?_) (fun hc13 => ?_)
                · replace hB9 := cond_t hc13 hB9
                  obtain rfl := Option.some.inj hB9
                  try simp only at hB4
                  obtain rfl := Option.some.inj hB4
                  try simp only at h
                  obtain rfl := Option.some.inj h
                  refine go hS F ?_
                  exact fin F
                · replace hB9 := cond_f hc13 hB9
                  try simp only [gd_some, Option.bind_eq_some_iff] at hB9
                  obtain ⟨hv14, hB9⟩ := hB9
                  simp only [I64] at hv14
                  refine go hS F ?_
                  exact backK_n (n, x650 + 1, c649 + 1 + 1 + 1 + 1) hB9 (Nat.lt_succ_self _) (leF F)
              · replace hB9 := cond_f hc10 hB9
                refine go hS F ?_
                exact cutK_h (c649 + 1) (Option.some.inj hB9) (leF F)
          · rintro c656 hz15
            subst hz15
            try simp only at hB4
            try simp only [gd_some, Option.bind_eq_some_iff] at hB4
            obtain ⟨hv16, hB4⟩ := hB4
            simp only [I64] at hv16
            refine go hS F ?_
            exact backK_n (n, x641 + 1, c656 + 1) hB4 (Nat.lt_succ_self _) (leF F)
        · replace hB4 := cond_f hc5 hB4
          refine go hS F ?_
          exact cutK_h (c640 + 1) (Option.some.inj hB4) (leF F)
    · rintro c661 hz17
      subst hz17
      try simp only at h
      obtain rfl := Option.some.inj h
      refine go hS F ?_
      exact fin F
end

def s34 (N : Nat) : Spec
  | [.sl yl624 _ l624 _] => some (((yl624 = 2 ∨ l624 = []) ∧ l624 = (l624.map d_ii).map e_ii) ∧ (D_plane_Valid N (l624.map d_ii)).isSome = true, .b ((D_plane_Valid N (l624.map d_ii)).getD false))
  | _ => none
theorem fok34 (N : Nat) : FOK Tryd.prog 34 (s34 N) := ⟨of34, by
  intro args vc r h hv
  unfold s34 at h
  split at h
  · cases h
    obtain ⟨⟨hy0, hr0⟩, hs⟩ := hv
    obtain ⟨r, hr⟩ := Option.isSome_iff_exists.1 hs
    have hk := D_plane_Valid_ok N _ r hr
    simp only [hr, Option.getD_some]
    refine PCall.arg ?_ hk
    simp only [wkL, wk, and_true, true_and, Bool.false_eq_true, false_implies, implies_true]
    repeat' (first | exact True.intro | assumption | apply And.intro)
  · simp at h⟩

/-! putlog/plane.Area2 -/
def D_plane_Area2_L1 (N : Nat) (l664 : List (Int × Int)) : List ((Int × Int) × (Int × Int)) → Int → Option Int
  | [], out678 =>
    some out678
  | ((y679, y680), (y681, y682)) :: ys, out678 =>
    (nth l664 0).bind fun (x683, x684) =>
    (D_plane_turn N x683 x684 y679 y680 y681 y682).bind fun r686 =>
    gd (I64 (out678 + r686)) <|
    D_plane_Area2_L1 N l664 ys (out678 + r686)

def D_plane_Area2 (N : Nat) (l664 : List (Int × Int)) : Option Int :=
  (D_plane_Valid N l664).bind fun r665 =>
  bif !r665 then (
    some 0)
  else (
    gd (l664.length ≤ 1000000000) <|
    (D_plane_Area2_L1 N l664 (edgesL l664) 0).bind fun out691 =>
    some out691)

def T40 (N : Nat) : List (Nat × Spec) := [(34, s34 N), (55, sEdges), (56, s56 N)]
theorem T40_ok (N : Nat) : TabOK Tryd.prog (tabOf (T40 N)) := tab_cons (fok34 N) (tab_cons edges_fok (tab_cons (fok56 N) (tab_nil)))

section
attribute [local go_sem] T40 s34 sEdges s56 e_ii de_ii rb_ii d_ii rowAt_zero rowAt_succ List.set_cons_succ List.isEmpty_map List.map_append List.map_eq_nil_iff ne_eq List.length_replicate takeMap dropMap List.length_set Option.isSome_some
theorem D_plane_Area2_ok (N : Nat) (l664 : List (Int × Int)) (r : Int) (h : D_plane_Area2 N l664 = some r) : PCall Tryd.prog 40 [.sl 2 false (l664.map e_ii) [.i 0, .i 0]] (.i r) := by
  refine pcall_fn (T40_ok N) _ Tryd.func40 ok40 nt40 (by simp) fun _ => ?_
  have hS := T40_ok N
  have F := f0
  unfold ac40 rv40
  unfold D_plane_Area2 at h
  try simp only [gd_some, Option.bind_eq_some_iff] at h
  obtain ⟨r665, hr665, h⟩ := h
  replace F := fc hr665 F
  refine go hS F ?_
  refine cb F (!r665) (fun hc1 => ?_) (fun hc1 => ?_)
  · replace h := cond_t hc1 h
    obtain rfl := Option.some.inj h
    refine go hS F ?_
    exact fin F
  · replace h := cond_f hc1 h
    try simp only [gd_some, Option.bind_eq_some_iff] at h
    obtain ⟨hv2, h⟩ := h
    try simp only [gd_some, Option.bind_eq_some_iff] at h
    obtain ⟨o692, hL3, h⟩ := h
    refine go hS F ?_
    refine awp_cut (fun z : Int × Nat => ⟨[(3, .box (300, 3) 0)], [(.c (300, 3) 0, .i z.1)], z.2⟩) (fun z => (z.1 : Int) = o692) .n ?_ ?_
    · refine awp_rfun (fun y : Nat × Int × Nat => ([(.c (300, 3) 0, .i y.2.1), (.c (0, 1) 0, .sl 2 false (l664.map e_ii) [.i 0, .i 0])], y.2.2)) (fun y => D_plane_Area2_L1 N l664 ((edgesL l664).drop y.1) y.2.1 = some o692 ∧ y.1 ≤ (edgesL l664).length) (fun y => y.1) (0, 0, 4) (by simp only [go_sem, seval, F] <;> eq_refl) (edges_it l664 false (by assumption)) of69 ⟨rfl, rfl⟩ (by simp) (by intro a ha; obtain ⟨y, _, rfl⟩ := List.mem_map.1 ha; exact ⟨rfl, rfl⟩) ⟨hL3, Nat.zero_le _⟩ rfl ?_ ?_ ?_
      · exact leF F
      · rintro l ⟨n, out678, c677⟩ ⟨hB4, hle⟩ args ha5
        obtain ⟨⟨⟨y679, y680⟩, ⟨y681, y682⟩⟩, hy6, rfl, hlt⟩ := rd_step ha5
        rw [hy6, D_plane_Area2_L1] at hB4
        try simp only at hB4
        clear ha5 hy6
        simp only [edA, putps]
        try simp only [gd_some, Option.bind_eq_some_iff] at hB4
        obtain ⟨⟨x683, x684⟩, hn684, hB4⟩ := hB4
        have hx684 : l664.getD 0 (0, 0) = (x683, x684) := ixs hn684 _
        have hb684 := (nth_some hn684).1
        replace F := fc hx684 F
        try simp only [gd_some, Option.bind_eq_some_iff] at hB4
        obtain ⟨r686, hr686, hv7, hB4⟩ := hB4
        simp only [I64] at hv7
        replace F := fc hr686 F
        refine go hS F ?_
        exact rngK_n (n + 1, out678 + r686, c677 + 1 + 1 + 1) ⟨hB4, by omega⟩ rfl (leF F)
      · rintro ⟨n, out678, c677⟩ ⟨hB4, hle⟩ hk
        rw [show n = _ from hk, drop_all, D_plane_Area2_L1] at hB4
        try simp only at hB4
        refine go hS F ?_
        exact cutK_h (out678, c677) (Option.some.inj hB4) (leF F)
    · rintro ⟨out691, c690⟩ hz8
      subst hz8
      try simp only at h
      obtain rfl := Option.some.inj h
      refine go hS F ?_
      exact fin F
end

def s40 (N : Nat) : Spec
  | [.sl yl664 _ l664 _] => some (((yl664 = 2 ∨ l664 = []) ∧ l664 = (l664.map d_ii).map e_ii) ∧ (D_plane_Area2 N (l664.map d_ii)).isSome = true, .i ((D_plane_Area2 N (l664.map d_ii)).getD 0))
  | _ => none
theorem fok40 (N : Nat) : FOK Tryd.prog 40 (s40 N) := ⟨of40, by
  intro args vc r h hv
  unfold s40 at h
  split at h
  · cases h
    obtain ⟨⟨hy0, hr0⟩, hs⟩ := hv
    obtain ⟨r, hr⟩ := Option.isSome_iff_exists.1 hs
    have hk := D_plane_Area2_ok N _ r hr
    simp only [hr, Option.getD_some]
    refine PCall.arg ?_ hk
    simp only [wkL, wk, and_true, true_and, Bool.false_eq_true, false_implies, implies_true]
    repeat' (first | exact True.intro | assumption | apply And.intro)
  · simp at h⟩

/-! putlog/plane.Moments -/
def D_plane_Moments_L1 (N : Nat) (l693 : List (Int × Int)) : List ((Int × Int) × (Int × Int)) → Int → Int → Option (Int × Int)
  | [], y707, x708 =>
    some (y707, x708)
  | ((y709, y710), (y711, y712)) :: ys, y707, x708 =>
    (nth l693 0).bind fun (x713, x714) =>
    (D_plane_turn N x713 x714 y709 y710 y711 y712).bind fun r716 =>
    gd (I64 (x713 + y709)) <|
    gd (I64 ((x713 + y709) + y711)) <|
    gd (I64 (r716 * ((x713 + y709) + y711))) <|
    gd (I64 (x708 + (r716 * ((x713 + y709) + y711)))) <|
    gd (I64 (x714 + y710)) <|
    gd (I64 ((x714 + y710) + y712)) <|
    gd (I64 (r716 * ((x714 + y710) + y712))) <|
    gd (I64 (y707 + (r716 * ((x714 + y710) + y712)))) <|
    D_plane_Moments_L1 N l693 ys (y707 + (r716 * ((x714 + y710) + y712))) (x708 + (r716 * ((x713 + y709) + y711)))

def D_plane_Moments (N : Nat) (l693 : List (Int × Int)) : Option (Int × Int) :=
  (D_plane_Valid N l693).bind fun r694 =>
  bif !r694 then (
    some (0, 0))
  else (
    gd (l693.length ≤ 1000000000) <|
    (D_plane_Moments_L1 N l693 (edgesL l693) 0 0).bind fun (y722, x723) =>
    some (x723, y722))

def T32 (N : Nat) : List (Nat × Spec) := [(34, s34 N), (55, sEdges), (56, s56 N)]
theorem T32_ok (N : Nat) : TabOK Tryd.prog (tabOf (T32 N)) := tab_cons (fok34 N) (tab_cons edges_fok (tab_cons (fok56 N) (tab_nil)))

section
attribute [local go_sem] T32 s34 sEdges s56 e_ii de_ii rb_ii d_ii rowAt_zero rowAt_succ List.set_cons_succ List.isEmpty_map List.map_append List.map_eq_nil_iff ne_eq List.length_replicate takeMap dropMap List.length_set Option.isSome_some
theorem D_plane_Moments_ok (N : Nat) (l693 : List (Int × Int)) (r : Int × Int) (h : D_plane_Moments N l693 = some r) : PCall Tryd.prog 32 [.sl 2 false (l693.map e_ii) [.i 0, .i 0]] (.tup [.i r.1, .i r.2]) := by
  refine pcall_fn (T32_ok N) _ Tryd.func32 ok32 nt32 (by simp) fun _ => ?_
  have hS := T32_ok N
  have F := f0
  unfold ac32 rv32
  unfold D_plane_Moments at h
  try simp only [gd_some, Option.bind_eq_some_iff] at h
  obtain ⟨r694, hr694, h⟩ := h
  replace F := fc hr694 F
  refine go hS F ?_
  refine cb F (!r694) (fun hc1 => ?_) (fun hc1 => ?_)
  · replace h := cond_t hc1 h
    obtain rfl := Option.some.inj h
    refine go hS F ?_
    exact fin F
  · replace h := cond_f hc1 h
    try simp only [gd_some, Option.bind_eq_some_iff] at h
    obtain ⟨hv2, h⟩ := h
    try simp only [gd_some, Option.bind_eq_some_iff] at h
    obtain ⟨o724, hL3, h⟩ := h
    refine go hS F ?_
    refine awp_cut (fun z : Int × Int × Nat => ⟨[(2, .box (1, 1) 0), (3, .box (2, 1) 0)], [(.c (2, 1) 0, .i z.1), (.c (1, 1) 0, .i z.2.1)], z.2.2⟩) (fun z => ((z.1, z.2.1) : Int × Int) = o724) .n ?_ ?_
    · refine awp_rfun (fun y : Nat × Int × Int × Nat => ([(.c (2, 1) 0, .i y.2.1), (.c (1, 1) 0, .i y.2.2.1), (.c (0, 1) 0, .sl 2 false (l693.map e_ii) [.i 0, .i 0])], y.2.2.2)) (fun y => D_plane_Moments_L1 N l693 ((edgesL l693).drop y.1) y.2.1 y.2.2.1 = some o724 ∧ y.1 ≤ (edgesL l693).length) (fun y => y.1) (0, 0, 0, 3) (by simp only [go_sem, seval, F] <;> eq_refl) (edges_it l693 false (by assumption)) of69 ⟨rfl, rfl⟩ (by simp) (by intro a ha; obtain ⟨y, _, rfl⟩ := List.mem_map.1 ha; exact ⟨rfl, rfl⟩) ⟨hL3, Nat.zero_le _⟩ rfl ?_ ?_ ?_
      · exact leF F
      · rintro l ⟨n, y707, x708, c706⟩ ⟨hB4, hle⟩ args ha5
        obtain ⟨⟨⟨y709, y710⟩, ⟨y711, y712⟩⟩, hy6, rfl, hlt⟩ := rd_step ha5
        rw [hy6, D_plane_Moments_L1] at hB4
        try simp only at hB4
        clear ha5 hy6
        simp only [edA, putps]
        try simp only [gd_some, Option.bind_eq_some_iff] at hB4
        obtain ⟨⟨x713, x714⟩, hn714, hB4⟩ := hB4
        have hx714 : l693.getD 0 (0, 0) = (x713, x714) := ixs hn714 _
        have hb714 := (nth_some hn714).1
        replace F := fc hx714 F
        try simp only [gd_some, Option.bind_eq_some_iff] at hB4
        obtain ⟨r716, hr716, hv7, hv8, hv9, hv10, hv11, hv12, hv13, hv14, hB4⟩ := hB4
        simp only [I64] at hv7
        simp only [I64] at hv8
        simp only [I64] at hv9
        simp only [I64] at hv10
        simp only [I64] at hv11
        simp only [I64] at hv12
        simp only [I64] at hv13
        simp only [I64] at hv14
        replace F := fc hr716 F
        refine go hS F ?_
        exact rngK_n (n + 1, y707 + (r716 * ((x714 + y710) + y712)), x708 + (r716 * ((x713 + y709) + y711)), c706 + 1 + 1 + 1 + 1 + 1) ⟨hB4, by omega⟩ rfl (leF F)
      · rintro ⟨n, y707, x708, c706⟩ ⟨hB4, hle⟩ hk
        rw [show n = _ from hk, drop_all, D_plane_Moments_L1] at hB4
        try simp only at hB4
        refine go hS F ?_
        exact cutK_h (y707, x708, c706) (Option.some.inj hB4) (leF F)
    · rintro ⟨y722, x723, c721⟩ hz15
      subst hz15
      try simp only at h
      obtain rfl := Option.some.inj h
      refine go hS F ?_
      exact fin F
end

def s32 (N : Nat) : Spec
  | [.sl yl693 _ l693 _] => some (((yl693 = 2 ∨ l693 = []) ∧ l693 = (l693.map d_ii).map e_ii) ∧ (D_plane_Moments N (l693.map d_ii)).isSome = true, .tup [.i (((D_plane_Moments N (l693.map d_ii)).getD (0, 0)).1), .i (((D_plane_Moments N (l693.map d_ii)).getD (0, 0)).2)])
  | _ => none
theorem fok32 (N : Nat) : FOK Tryd.prog 32 (s32 N) := ⟨of32, by
  intro args vc r h hv
  unfold s32 at h
  split at h
  · cases h
    obtain ⟨⟨hy0, hr0⟩, hs⟩ := hv
    obtain ⟨r, hr⟩ := Option.isSome_iff_exists.1 hs
    have hk := D_plane_Moments_ok N _ r hr
    simp only [hr, Option.getD_some]
    refine PCall.arg ?_ hk
    simp only [wkL, wk, and_true, true_and, Bool.false_eq_true, false_implies, implies_true]
    repeat' (first | exact True.intro | assumption | apply And.intro)
  · simp at h⟩

/-! putlog/plane.Inside -/
def D_plane_Inside (N : Nat) (l725 : List (Int × Int)) (p726 : Int) (p727 : Int) : Option Int :=
  (D_plane_Valid N l725).bind fun r728 =>
  gd ((!(!r728)) = true → ((D_plane_isOff N p726 p727).isSome = true)) <|
  bif (!r728) || ((D_plane_isOff N p726 p727).getD false) then (
    some (-1))
  else (
    (D_plane_side N l725 p726 p727).bind fun r730 =>
    some r730)

def T24 (N : Nat) : List (Nat × Spec) := [(34, s34 N), (37, s37 N), (47, s47 N)]
theorem T24_ok (N : Nat) : TabOK Tryd.prog (tabOf (T24 N)) := tab_cons (fok34 N) (tab_cons (fok37 N) (tab_cons (fok47 N) (tab_nil)))

section
attribute [local go_sem] T24 s34 s37 s47 e_ii de_ii rb_ii d_ii rowAt_zero rowAt_succ List.set_cons_succ List.isEmpty_map List.map_append List.map_eq_nil_iff ne_eq List.length_replicate takeMap dropMap List.length_set Option.isSome_some
theorem D_plane_Inside_ok (N : Nat) (l725 : List (Int × Int)) (p726 : Int) (p727 : Int) (r : Int) (h : D_plane_Inside N l725 p726 p727 = some r) : PCall Tryd.prog 24 [.sl 2 false (l725.map e_ii) [.i 0, .i 0], .agg [.i p726, .i p727]] (.i r) := by
  refine pcall_fn (T24_ok N) _ Tryd.func24 ok24 nt24 (by simp) fun _ => ?_
  have hS := T24_ok N
  have F := f0
  unfold ac24 rv24
  unfold D_plane_Inside at h
  try simp only [gd_some, Option.bind_eq_some_iff] at h
  obtain ⟨r728, hr728, hv1, h⟩ := h
  replace F := fc hr728 F
  refine go hS F ?_
  refine cb F ((!r728) || ((D_plane_isOff N p726 p727).getD false)) (fun hc2 => ?_) (fun hc2 => ?_)
  · replace h := cond_t hc2 h
    obtain rfl := Option.some.inj h
    refine go hS F ?_
    exact fin F
  · replace h := cond_f hc2 h
    try simp only [gd_some, Option.bind_eq_some_iff] at h
    obtain ⟨r730, hr730, h⟩ := h
    replace F := fc hr730 F
    obtain rfl := Option.some.inj h
    refine go hS F ?_
    exact fin F
end

def s24 (N : Nat) : Spec
  | [.sl yl725 _ l725 _, .agg [.v (.int .i64 p726), .v (.int .i64 p727)]] => some (((yl725 = 2 ∨ l725 = []) ∧ l725 = (l725.map d_ii).map e_ii) ∧ (D_plane_Inside N (l725.map d_ii) p726 p727).isSome = true, .i ((D_plane_Inside N (l725.map d_ii) p726 p727).getD 0))
  | _ => none
theorem fok24 (N : Nat) : FOK Tryd.prog 24 (s24 N) := ⟨of24, by
  intro args vc r h hv
  unfold s24 at h
  split at h
  · cases h
    obtain ⟨⟨hy0, hr0⟩, hs⟩ := hv
    obtain ⟨r, hr⟩ := Option.isSome_iff_exists.1 hs
    have hk := D_plane_Inside_ok N _ _ _ r hr
    simp only [hr, Option.getD_some]
    refine PCall.arg ?_ hk
    simp only [wkL, wk, and_true, true_and, Bool.false_eq_true, false_implies, implies_true]
    repeat' (first | exact True.intro | assumption | apply And.intro)
  · simp at h⟩

/-! putlog/plane.first -/
def D_plane_first_L1 (N : Nat) (other733 : List (Int × Int)) : List ((Int × Int) × (Int × Int)) → Int → Option (Sum Unit Int)
  | [], i742 =>
    some (.inl ())
  | ((y743, y744), (y745, y746)) :: ys, i742 =>
    (D_slices_ContainsFunc_api_Place_api_Place_v84 N other733 y743 y744 y745 y746).bind fun r747 =>
    bif !r747 then (
      some (.inr i742))
    else (
      gd (I64 (i742 + 1)) <|
      D_plane_first_L1 N other733 ys (i742 + 1))

def D_plane_first (N : Nat) (l732 : List (Int × Int)) (other733 : List (Int × Int)) : Option Int :=
  gd (l732.length ≤ 1000000000) <|
  (D_plane_first_L1 N other733 (edgesL l732) 0).bind fun o753 => match o753 with
    | .inl () => (
      some (-1))
    | .inr r752 => (
      some r752)

def T74 (N : Nat) : List (Nat × Spec) := [(55, sEdges), (36, s36_v84 N)]
theorem T74_ok (N : Nat) : TabOK Tryd.prog (tabOf (T74 N)) := tab_cons edges_fok (tab_cons (fok36_v84 N) (tab_nil))

section
attribute [local go_sem] T74 sEdges s36_v84 e_ii de_ii rb_ii d_ii rowAt_zero rowAt_succ List.set_cons_succ List.isEmpty_map List.map_append List.map_eq_nil_iff ne_eq List.length_replicate takeMap dropMap List.length_set Option.isSome_some
theorem D_plane_first_ok (N : Nat) (l732 : List (Int × Int)) (other733 : List (Int × Int)) (r : Int) (h : D_plane_first N l732 other733 = some r) : PCall Tryd.prog 74 [.sl 2 false (l732.map e_ii) [.i 0, .i 0], .sl 2 false (other733.map e_ii) [.i 0, .i 0]] (.i r) := by
  refine pcall_fn (T74_ok N) _ Tryd.func74 ok74 nt74 (by simp) fun _ => ?_
  have hS := T74_ok N
  have F := f0
  unfold ac74 rv74
  unfold D_plane_first at h
  try simp only [gd_some, Option.bind_eq_some_iff] at h
  obtain ⟨hv1, h⟩ := h
  try simp only [gd_some, Option.bind_eq_some_iff] at h
  obtain ⟨o753, hL2, h⟩ := h
  refine go hS F ?_
  refine awp_cut (fun z : Nat => ⟨[(4, .box (1, 1) 0)], [(.c (1, 1) 0, .i 0)], z⟩) (fun z => (.inl () : Sum Unit Int) = o753) .n ?_ ?_
  · refine awp_rfun (fun y : Nat × Int × Nat => ([(.c (100, 2) 0, .i y.2.1), (.c (1, 1) 0, .i 0), (.c (0, 1) 0, .sl 2 false (other733.map e_ii) [.i 0, .i 0])], y.2.2)) (fun y => D_plane_first_L1 N other733 ((edgesL l732).drop y.1) y.2.1 = some o753 ∧ y.1 ≤ (edgesL l732).length) (fun y => y.1) (0, 0, 3) (by simp only [go_sem, seval, F] <;> eq_refl) (edges_it l732 false (by assumption)) of69 ⟨rfl, rfl⟩ (by simp) (by intro a ha; obtain ⟨y, _, rfl⟩ := List.mem_map.1 ha; exact ⟨rfl, rfl⟩) ⟨hL2, Nat.zero_le _⟩ rfl ?_ ?_ ?_
    · exact leF F
    · rintro l ⟨n, i742, c741⟩ ⟨hB3, hle⟩ args ha4
      obtain ⟨⟨⟨y743, y744⟩, ⟨y745, y746⟩⟩, hy5, rfl, hlt⟩ := rd_step ha4
      rw [hy5, D_plane_first_L1] at hB3
      try simp only at hB3
      clear ha4 hy5
      simp only [edA, putps]
      try simp only [gd_some, Option.bind_eq_some_iff] at hB3
      obtain ⟨r747, hr747, hB3⟩ := hB3
      replace F := fc hr747 F
      refine go hS F ?_
      refine cb F (!r747) (fun hc6 => ?_) (fun hc6 => ?_)
      · replace hB3 := cond_t hc6 hB3
        obtain rfl := Option.some.inj hB3
        try simp only at h
        obtain rfl := Option.some.inj h
        refine go hS F ?_
        exact fin F
      · replace hB3 := cond_f hc6 hB3
        try simp only [gd_some, Option.bind_eq_some_iff] at hB3
        obtain ⟨hv7, hB3⟩ := hB3
        simp only [I64] at hv7
        refine go hS F ?_
        exact rngK_n (n + 1, i742 + 1, c741 + 1 + 1 + 1 + 1 + 1) ⟨hB3, by omega⟩ rfl (leF F)
    · rintro ⟨n, i742, c741⟩ ⟨hB3, hle⟩ hk
      rw [show n = _ from hk, drop_all, D_plane_first_L1] at hB3
      try simp only at hB3
      refine go hS F ?_
      exact cutK_h (c741) (Option.some.inj hB3) (leF F)
  · rintro c751 hz8
    subst hz8
    try simp only at h
    obtain rfl := Option.some.inj h
    refine go hS F ?_
    exact fin F
end

def s74 (N : Nat) : Spec
  | [.sl yl732 _ l732 _, .sl yother733 _ other733 _] => some (((yl732 = 2 ∨ l732 = []) ∧ l732 = (l732.map d_ii).map e_ii) ∧ ((yother733 = 2 ∨ other733 = []) ∧ other733 = (other733.map d_ii).map e_ii) ∧ (D_plane_first N (l732.map d_ii) (other733.map d_ii)).isSome = true, .i ((D_plane_first N (l732.map d_ii) (other733.map d_ii)).getD 0))
  | _ => none
theorem fok74 (N : Nat) : FOK Tryd.prog 74 (s74 N) := ⟨of74, by
  intro args vc r h hv
  unfold s74 at h
  split at h
  · cases h
    obtain ⟨⟨hy0, hr0⟩, ⟨hy1, hr1⟩, hs⟩ := hv
    obtain ⟨r, hr⟩ := Option.isSome_iff_exists.1 hs
    have hk := D_plane_first_ok N _ _ r hr
    simp only [hr, Option.getD_some]
    refine PCall.arg ?_ hk
    simp only [wkL, wk, and_true, true_and, Bool.false_eq_true, false_implies, implies_true]
    repeat' (first | exact True.intro | assumption | apply And.intro)
  · simp at h⟩

/-! putlog/plane.Side -/
def D_plane_Side (N : Nat) (a754 : List (Int × Int)) (b755 : List (Int × Int)) : Option (Int × Int × Bool) :=
  (D_plane_Valid N a754).bind fun r756 =>
  gd ((!(!r756)) = true → ((D_plane_Valid N b755).isSome = true)) <|
  bif (!r756) || (!((D_plane_Valid N b755).getD false)) then (
    some (0, 0, false))
  else (
    (D_plane_first N a754 b755).bind fun r758 =>
    bif decide (0 ≤ r758) then (
      some (0, r758, true))
    else (
      (D_plane_first N b755 a754).bind fun r760 =>
      bif decide (0 ≤ r760) then (
        some (1, r760, true))
      else (
        some (0, 0, false))))

def T60 (N : Nat) : List (Nat × Spec) := [(34, s34 N), (74, s74 N)]
theorem T60_ok (N : Nat) : TabOK Tryd.prog (tabOf (T60 N)) := tab_cons (fok34 N) (tab_cons (fok74 N) (tab_nil))

section
attribute [local go_sem] T60 s34 s74 e_ii de_ii rb_ii d_ii rowAt_zero rowAt_succ List.set_cons_succ List.isEmpty_map List.map_append List.map_eq_nil_iff ne_eq List.length_replicate takeMap dropMap List.length_set Option.isSome_some
theorem D_plane_Side_ok (N : Nat) (a754 : List (Int × Int)) (b755 : List (Int × Int)) (r : Int × Int × Bool) (h : D_plane_Side N a754 b755 = some r) : PCall Tryd.prog 60 [.sl 2 false (a754.map e_ii) [.i 0, .i 0], .sl 2 false (b755.map e_ii) [.i 0, .i 0]] (.tup [.i r.1, .i r.2.1, .b r.2.2]) := by
  refine pcall_fn (T60_ok N) _ Tryd.func60 ok60 nt60 (by simp) fun _ => ?_
  have hS := T60_ok N
  have F := f0
  unfold ac60 rv60
  unfold D_plane_Side at h
  try simp only [gd_some, Option.bind_eq_some_iff] at h
  obtain ⟨r756, hr756, hv1, h⟩ := h
  replace F := fc hr756 F
  refine go hS F ?_
  refine cb F ((!r756) || (!((D_plane_Valid N b755).getD false))) (fun hc2 => ?_) (fun hc2 => ?_)
  · replace h := cond_t hc2 h
    obtain rfl := Option.some.inj h
    refine go hS F ?_
    exact fin F
  · replace h := cond_f hc2 h
    try simp only [gd_some, Option.bind_eq_some_iff] at h
    obtain ⟨r758, hr758, h⟩ := h
    replace F := fc hr758 F
    refine go hS F ?_
    refine cb F (decide (0 ≤ r758)) (fun hc3 => ?_) (fun hc3 => ?_)
    · replace h := cond_t hc3 h
      obtain rfl := Option.some.inj h
      refine go hS F ?_
      exact fin F
    · replace h := cond_f hc3 h
      try simp only [gd_some, Option.bind_eq_some_iff] at h
      obtain ⟨r760, hr760, h⟩ := h
      replace F := fc hr760 F
      refine go hS F ?_
      refine cb F (decide (0 ≤ r760)) (fun hc4 => ?_) (fun hc4 => ?_)
      · replace h := cond_t hc4 h
        obtain rfl := Option.some.inj h
        refine go hS F ?_
        exact fin F
      · replace h := cond_f hc4 h
        obtain rfl := Option.some.inj h
        refine go hS F ?_
        exact fin F
end

def s60 (N : Nat) : Spec
  | [.sl ya754 _ a754 _, .sl yb755 _ b755 _] => some (((ya754 = 2 ∨ a754 = []) ∧ a754 = (a754.map d_ii).map e_ii) ∧ ((yb755 = 2 ∨ b755 = []) ∧ b755 = (b755.map d_ii).map e_ii) ∧ (D_plane_Side N (a754.map d_ii) (b755.map d_ii)).isSome = true, .tup [.i (((D_plane_Side N (a754.map d_ii) (b755.map d_ii)).getD (0, 0, false)).1), .i (((D_plane_Side N (a754.map d_ii) (b755.map d_ii)).getD (0, 0, false)).2.1), .b (((D_plane_Side N (a754.map d_ii) (b755.map d_ii)).getD (0, 0, false)).2.2)])
  | _ => none
theorem fok60 (N : Nat) : FOK Tryd.prog 60 (s60 N) := ⟨of60, by
  intro args vc r h hv
  unfold s60 at h
  split at h
  · cases h
    obtain ⟨⟨hy0, hr0⟩, ⟨hy1, hr1⟩, hs⟩ := hv
    obtain ⟨r, hr⟩ := Option.isSome_iff_exists.1 hs
    have hk := D_plane_Side_ok N _ _ r hr
    simp only [hr, Option.getD_some]
    refine PCall.arg ?_ hk
    simp only [wkL, wk, and_true, true_and, Bool.false_eq_true, false_implies, implies_true]
    repeat' (first | exact True.intro | assumption | apply And.intro)
  · simp at h⟩

/-! putlog/plane.Overlap -/
def D_plane_Overlap (N : Nat) (a762 : List (Int × Int)) (b763 : List (Int × Int)) : Option Bool :=
  (D_plane_Side N a762 b763).bind fun (r764, r765, r766) =>
  (D_plane_Valid N a762).bind fun r768 =>
  gd (r768 = true → ((D_plane_Valid N b763).isSome = true)) <|
  some ((r768 && ((D_plane_Valid N b763).getD false)) && (!r766))

def T41 (N : Nat) : List (Nat × Spec) := [(60, s60 N), (34, s34 N)]
theorem T41_ok (N : Nat) : TabOK Tryd.prog (tabOf (T41 N)) := tab_cons (fok60 N) (tab_cons (fok34 N) (tab_nil))

section
attribute [local go_sem] T41 s60 s34 e_ii de_ii rb_ii d_ii rowAt_zero rowAt_succ List.set_cons_succ List.isEmpty_map List.map_append List.map_eq_nil_iff ne_eq List.length_replicate takeMap dropMap List.length_set Option.isSome_some
theorem D_plane_Overlap_ok (N : Nat) (a762 : List (Int × Int)) (b763 : List (Int × Int)) (r : Bool) (h : D_plane_Overlap N a762 b763 = some r) : PCall Tryd.prog 41 [.sl 2 false (a762.map e_ii) [.i 0, .i 0], .sl 2 false (b763.map e_ii) [.i 0, .i 0]] (.b r) := by
  refine pcall_fn (T41_ok N) _ Tryd.func41 ok41 nt41 (by simp) fun _ => ?_
  have hS := T41_ok N
  have F := f0
  unfold ac41 rv41
  unfold D_plane_Overlap at h
  try simp only [gd_some, Option.bind_eq_some_iff] at h
  obtain ⟨⟨r764, r765, r766⟩, hr766, h⟩ := h
  replace F := fc hr766 F
  try simp only [gd_some, Option.bind_eq_some_iff] at h
  obtain ⟨r768, hr768, hv1, h⟩ := h
  replace F := fc hr768 F
  obtain rfl := Option.some.inj h
  refine go hS F ?_
  exact fin F
end

def s41 (N : Nat) : Spec
  | [.sl ya762 _ a762 _, .sl yb763 _ b763 _] => some (((ya762 = 2 ∨ a762 = []) ∧ a762 = (a762.map d_ii).map e_ii) ∧ ((yb763 = 2 ∨ b763 = []) ∧ b763 = (b763.map d_ii).map e_ii) ∧ (D_plane_Overlap N (a762.map d_ii) (b763.map d_ii)).isSome = true, .b ((D_plane_Overlap N (a762.map d_ii) (b763.map d_ii)).getD false))
  | _ => none
theorem fok41 (N : Nat) : FOK Tryd.prog 41 (s41 N) := ⟨of41, by
  intro args vc r h hv
  unfold s41 at h
  split at h
  · cases h
    obtain ⟨⟨hy0, hr0⟩, ⟨hy1, hr1⟩, hs⟩ := hv
    obtain ⟨r, hr⟩ := Option.isSome_iff_exists.1 hs
    have hk := D_plane_Overlap_ok N _ _ r hr
    simp only [hr, Option.getD_some]
    refine PCall.arg ?_ hk
    simp only [wkL, wk, and_true, true_and, Bool.false_eq_true, false_implies, implies_true]
    repeat' (first | exact True.intro | assumption | apply And.intro)
  · simp at h⟩

/-! putlog/plane.Move -/
def D_plane_Move_L1 (N : Nat) (l770 : List (Int × Int)) (dx771 : Int) (dy772 : Int) : Nat → Int → (List (Int × Int)) → Option ((List (Int × Int)))
  | 0, _, _ => none
  | n + 1, x783, l784 =>
    bif decide (x783 < (l770.length : Int)) then (
      (nth l784 x783).bind fun (x785, x786) =>
      gd (I64 (x785 + dx771)) <|
      (nth (l784.set x783.toNat (x785 + dx771, x786)) x783).bind fun (x788, x789) =>
      gd (I64 (x789 + dy772)) <|
      gd (I64 (x783 + 1)) <|
      D_plane_Move_L1 N l770 dx771 dy772 n (x783 + 1) ((l784.set x783.toNat (x785 + dx771, x786)).set x783.toNat (x788, x789 + dy772)))
    else (
      some l784)

def D_plane_Move (N : Nat) (l770 : List (Int × Int)) (dx771 : Int) (dy772 : Int) : Option ((List (Int × Int)) × Int) :=
  (D_plane_Valid N l770).bind fun r773 =>
  bif ((!r773) || (decide (40 < max dx771 dy772))) || (decide (min dx771 dy772 < (-40))) then (
    some ([], 70))
  else (
    gd (l770 ≠ []) <|
    gd ((l770.length) * 16 ≤ 140737488355328) <|
    (D_plane_Move_L1 N l770 dx771 dy772 N 0 l770).bind fun l795 =>
    (D_slices_ContainsFunc_api_Place_api_Place_v37 N l795).bind fun r797 =>
    bif r797 then (
      some ([], 70))
    else (
      some (l795, 0)))

def T15 (N : Nat) : List (Nat × Spec) := [(34, s34 N), (36, s36_v37 N)]
theorem T15_ok (N : Nat) : TabOK Tryd.prog (tabOf (T15 N)) := tab_cons (fok34 N) (tab_cons (fok36_v37 N) (tab_nil))

section
attribute [local go_sem] T15 s34 s36_v37 e_ii de_ii rb_ii d_ii rowAt_zero rowAt_succ List.set_cons_succ List.isEmpty_map List.map_append List.map_eq_nil_iff ne_eq List.length_replicate takeMap dropMap List.length_set Option.isSome_some
theorem D_plane_Move_ok (N : Nat) (l770 : List (Int × Int)) (dx771 : Int) (dy772 : Int) (r : (List (Int × Int)) × Int) (h : D_plane_Move N l770 dx771 dy772 = some r) : PCall Tryd.prog 15 [.sl 2 false (l770.map e_ii) [.i 0, .i 0], .i dx771, .i dy772] (.tup [.sl 2 false (r.1.map e_ii) [.i 0, .i 0], .i r.2]) := by
  refine pcall_fn (T15_ok N) _ Tryd.func15 ok15 nt15 (by simp) fun _ => ?_
  have hS := T15_ok N
  have F := f0
  unfold ac15 rv15
  unfold D_plane_Move at h
  try simp only [gd_some, Option.bind_eq_some_iff] at h
  obtain ⟨r773, hr773, h⟩ := h
  replace F := fc hr773 F
  refine go hS F ?_
  refine cb F (((!r773) || (decide (40 < max dx771 dy772))) || (decide (min dx771 dy772 < (-40)))) (fun hc1 => ?_) (fun hc1 => ?_)
  · replace h := cond_t hc1 h
    obtain rfl := Option.some.inj h
    refine go hS F ?_
    exact fin F
  · replace h := cond_f hc1 h
    refine go hS F ?_
    refine awp_inlF hS 1 Tryd.func35 ok35 nt35 of35 rfl (by simp only [go_sem, seval, F] <;> eq_refl) (by simp only [go_sem, seval, F] <;> eq_refl) ?_ rfl (by simp only [go_sem, seval, F] <;> eq_refl) (by simp) fun hb => ?_
    · exact goc hS F
    unfold ac35 rv35
    try simp only [gd_some, Option.bind_eq_some_iff] at h
    obtain ⟨hv2, h⟩ := h
    refine go hS F ?_
    refine cf F ?_
    try simp only [gd_some, Option.bind_eq_some_iff] at h
    obtain ⟨hv3, h⟩ := h
    try simp only [gd_some, Option.bind_eq_some_iff] at h
    obtain ⟨o796, hL4, h⟩ := h
    refine go hS F ?_
    refine awp_cut (fun z : (List (Int × Int)) × Nat => ⟨[(8, .own (300, 6) z.1.length)], [(.a (300, 6), .sl 2 true (z.1.map e_ii) [.i 0, .i 0])], z.2⟩) (fun z => (z.1 : (List (Int × Int))) = o796) (.x 0) ?_ ?_
    · refine awp_loop (fun y : Nat × Int × (List (Int × Int)) × Nat => ⟨[(1, .i dx771), (2, .i dy772), (8, .own (300, 6) y.2.2.1.length), (28, .i (l770.length : Int)), (29, .i y.2.1)], [(.a (300, 6), .sl 2 true (y.2.2.1.map e_ii) [.i 0, .i 0])], y.2.2.2⟩) (fun y => D_plane_Move_L1 N l770 dx771 dy772 y.1 y.2.1 y.2.2.1 = some o796) (fun y => y.1) (N, 0, l770, 8) hL4 ?_ ?_
      · exact leF F
      · rintro ⟨n, x783, l784, c782⟩ hB5
        try simp only at hB5
        obtain _ | n := n
        · exact absurd hB5 (by simp [D_plane_Move_L1])
        rw [D_plane_Move_L1] at hB5
        refine go hS F ?_
        refine cb F (decide (x783 < (l770.length : Int))) (fun hc6 => ?_) (fun hc6 => ?_)
        · replace hB5 := cond_t hc6 hB5
          try simp only [gd_some, Option.bind_eq_some_iff] at hB5
          obtain ⟨⟨x785, x786⟩, hn786, hB5⟩ := hB5
          have hx786 : l784.getD x783.toNat (0, 0) = (x785, x786) := ixs hn786 _
          have hb786 := (nth_some hn786).1
          replace F := fc hx786 F
          try simp only [gd_some, Option.bind_eq_some_iff] at hB5
          obtain ⟨hv7, ⟨x788, x789⟩, hn789, hB5⟩ := hB5
          simp only [I64] at hv7
          have hx789 : (l784.set x783.toNat (x785 + dx771, x786)).getD x783.toNat (0, 0) = (x788, x789) := ixs hn789 _
          have hq789 := rb_ii (l784.set x783.toNat (x785 + dx771, x786)) x783.toNat
          rw [hx789] at hq789
          simp only [List.map_set, e_ii] at hq789
          have hb789 := (nth_some hn789).1
          replace F := fc hq789 (fc hx789 F)
          try simp only [gd_some, Option.bind_eq_some_iff] at hB5
          obtain ⟨hv8, hv9, hB5⟩ := hB5
          simp only [I64] at hv8
          simp only [I64] at hv9
          refine go hS F ?_
          exact backK_n (n, x783 + 1, (l784.set x783.toNat (x785 + dx771, x786)).set x783.toNat (x788, x789 + dy772), c782 + 1 + 1 + 1 + 1 + 1) hB5 (Nat.lt_succ_self _) (leF F)
        · replace hB5 := cond_f hc6 hB5
          refine go hS F ?_
          exact cutK_h (l784, c782 + 1) (Option.some.inj hB5) (leF F)
    · rintro ⟨l795, c794⟩ hz10
      subst hz10
      try simp only at h
      try simp only [gd_some, Option.bind_eq_some_iff] at h
      obtain ⟨r797, hr797, h⟩ := h
      replace F := fc hr797 F
      refine go hS F ?_
      refine cb F (r797) (fun hc11 => ?_) (fun hc11 => ?_)
      · replace h := cond_t hc11 h
        obtain rfl := Option.some.inj h
        refine go hS F ?_
        exact fin F
      · replace h := cond_f hc11 h
        obtain rfl := Option.some.inj h
        refine go hS F ?_
        exact fin F
end

def s15 (N : Nat) : Spec
  | [.sl yl770 _ l770 _, .v (.int .i64 dx771), .v (.int .i64 dy772)] => some (((yl770 = 2 ∨ l770 = []) ∧ l770 = (l770.map d_ii).map e_ii) ∧ (D_plane_Move N (l770.map d_ii) dx771 dy772).isSome = true, .tup [.sl 2 false ((((D_plane_Move N (l770.map d_ii) dx771 dy772).getD ([], 0)).1).map e_ii) [.i 0, .i 0], .i (((D_plane_Move N (l770.map d_ii) dx771 dy772).getD ([], 0)).2)])
  | _ => none
theorem fok15 (N : Nat) : FOK Tryd.prog 15 (s15 N) := ⟨of15, by
  intro args vc r h hv
  unfold s15 at h
  split at h
  · cases h
    obtain ⟨⟨hy0, hr0⟩, hs⟩ := hv
    obtain ⟨r, hr⟩ := Option.isSome_iff_exists.1 hs
    have hk := D_plane_Move_ok N _ _ _ r hr
    simp only [hr, Option.getD_some]
    refine PCall.arg ?_ hk
    simp only [wkL, wk, and_true, true_and, Bool.false_eq_true, false_implies, implies_true]
    repeat' (first | exact True.intro | assumption | apply And.intro)
  · simp at h⟩
end Go.Proofs.YtdabfcbelkjmgaaDoor.Am
