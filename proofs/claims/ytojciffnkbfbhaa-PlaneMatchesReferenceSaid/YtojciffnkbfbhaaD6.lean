import Derived.Test.YtojciffnkbfbhaaD5
namespace Go.Proofs.Ytojciffnkbfbhaa.Am
open Go
attribute [local irreducible] awp seqK blkK backK endK inlK restK rngK asgK itK
set_option maxRecDepth 100000
set_option maxHeartbeats 8000000
set_option linter.unusedSimpArgs false
set_option linter.unusedVariables false
/-! slices.IndexFunc   putlog/api.Place putlog/api.Place  -/
def D_slices_IndexFunc_api_Place_api_Place_v48_L1 (N : Nat) (s961 : List (Int × Int)) : Nat → Int → Option (Sum Unit Int)
  | 0, _ => none
  | n + 1, x969 =>
    bif decide (x969 < (s961.length : Int)) then (
      (nth s961 x969).bind fun (x970, x971) =>
      (D_plane_isOff N x970 x971).bind fun r973 =>
      bif r973 then (
        some (.inr x969))
      else (
        gd (I64 (x969 + 1)) <|
        D_slices_IndexFunc_api_Place_api_Place_v48_L1 N s961 n (x969 + 1)))
    else (
      some (.inl ()))

def D_slices_IndexFunc_api_Place_api_Place_v48 (N : Nat) (s961 : List (Int × Int)) : Option Int :=
  (D_slices_IndexFunc_api_Place_api_Place_v48_L1 N s961 N 0).bind fun o979 => match o979 with
    | .inl () => (
      some (-1))
    | .inr r978 => (
      some r978)

def T66_v48 (N : Nat) : List (Nat × Spec) := [(48, s48 N)]
theorem T66_v48_ok (N : Nat) : TabOK Try.prog (tabOf (T66_v48 N)) := tab_cons (fok48 N) (tab_nil)

section
attribute [local go_sem] T66_v48 s48 e_ii de_ii rb_ii d_ii rowAt_zero rowAt_succ List.set_cons_succ List.isEmpty_map List.map_append List.map_eq_nil_iff ne_eq List.length_replicate takeMap dropMap List.length_set Option.isSome_some
theorem D_slices_IndexFunc_api_Place_api_Place_v48_ok (N : Nat) (s961 : List (Int × Int)) (r : Int) (h : D_slices_IndexFunc_api_Place_api_Place_v48 N s961 = some r) : PCall Try.prog 66 [.sl 2 false (s961.map e_ii) [.i 0, .i 0], .clo (.func 48) [] []] (.i r) := by
  refine pcall_fn (T66_v48_ok N) _ Try.func66 ok66 nt66 (by simp) fun _ => ?_
  have hS := T66_v48_ok N
  have F := f0
  unfold ac66 rv66
  unfold D_slices_IndexFunc_api_Place_api_Place_v48 at h
  try simp only [gd_some, Option.bind_eq_some_iff] at h
  obtain ⟨o979, hL1, h⟩ := h
  refine go hS F ?_
  refine awp_cut (fun z : Nat => ⟨[], [], z⟩) (fun z => (.inl () : Sum Unit Int) = o979) (.x 0) ?_ ?_
  · refine awp_loop (fun y : Nat × Int × Nat => ⟨[(0, .sl 2 false (s961.map e_ii) [.i 0, .i 0]), (1, .clo (.func 48) [] []), (7, .i (s961.length : Int)), (8, .i y.2.1)], [], y.2.2⟩) (fun y => D_slices_IndexFunc_api_Place_api_Place_v48_L1 N s961 y.1 y.2.1 = some o979) (fun y => y.1) (N, 0, 2) hL1 ?_ ?_
    · exact leF F
    · rintro ⟨n, x969, c968⟩ hB2
      try simp only at hB2
      obtain _ | n := n
      · exact absurd hB2 (by simp [D_slices_IndexFunc_api_Place_api_Place_v48_L1])
      rw [D_slices_IndexFunc_api_Place_api_Place_v48_L1] at hB2
      refine go hS F ?_
      refine cb F (decide (x969 < (s961.length : Int))) (fun hc3 => ?_) (fun hc3 => ?_)
      · replace hB2 := cond_t hc3 hB2
        try simp only [gd_some, Option.bind_eq_some_iff] at hB2
        obtain ⟨⟨x970, x971⟩, hn971, hB2⟩ := hB2
        have hx971 : s961.getD x969.toNat (0, 0) = (x970, x971) := ixs hn971 _
        have hb971 := (nth_some hn971).1
        replace F := fc hx971 F
        try simp only [gd_some, Option.bind_eq_some_iff] at hB2
        obtain ⟨r973, hr973, hB2⟩ := hB2
        replace F := fc hr973 F
        refine go hS F ?_
        refine cb F (r973) (fun hc4 => ?_) (fun hc4 => ?_)
        · replace hB2 := cond_t hc4 hB2
          obtain rfl := Option.some.inj hB2
          try simp only at h
          obtain rfl := Option.some.inj h
          refine go hS F ?_
          exact fin F
        · replace hB2 := cond_f hc4 hB2
          try simp only [gd_some, Option.bind_eq_some_iff] at hB2
          obtain ⟨hv5, hB2⟩ := hB2
          simp only [I64] at hv5
          refine go hS F ?_
          exact backK_n (n, x969 + 1, c968 + 1 + 1 + 1 + 1) hB2 (Nat.lt_succ_self _) (leF F)
      · replace hB2 := cond_f hc3 hB2
        refine go hS F ?_
        exact cutK_h (c968 + 1) (Option.some.inj hB2) (leF F)
  · rintro c977 hz6
    subst hz6
    try simp only at h
    obtain rfl := Option.some.inj h
    refine go hS F ?_
    exact fin F
end

def s66_v48 (N : Nat) : Spec
  | [.sl ys961 _ s961 _, .clo (.func 48) [] []] => some (((ys961 = 2 ∨ s961 = []) ∧ s961 = (s961.map d_ii).map e_ii) ∧ (D_slices_IndexFunc_api_Place_api_Place_v48 N (s961.map d_ii)).isSome = true, .i ((D_slices_IndexFunc_api_Place_api_Place_v48 N (s961.map d_ii)).getD 0))
  | _ => none
theorem fok66_v48 (N : Nat) : FOK Try.prog 66 (s66_v48 N) := ⟨of66, by
  intro args vc r h hv
  unfold s66_v48 at h
  split at h
  · cases h
    obtain ⟨⟨hy0, hr0⟩, hs⟩ := hv
    obtain ⟨r, hr⟩ := Option.isSome_iff_exists.1 hs
    have hk := D_slices_IndexFunc_api_Place_api_Place_v48_ok N _ r hr
    simp only [hr, Option.getD_some]
    refine PCall.arg ?_ hk
    simp only [wkL, wk, and_true, true_and, Bool.false_eq_true, false_implies, implies_true]
    repeat' (first | exact True.intro | assumption | apply And.intro)
  · simp at h⟩

/-! slices.ContainsFunc   putlog/api.Place putlog/api.Place  -/
def D_slices_ContainsFunc_api_Place_api_Place_v48 (N : Nat) (s980 : List (Int × Int)) : Option Bool :=
  (D_slices_IndexFunc_api_Place_api_Place_v48 N s980).bind fun r981 =>
  some (decide (0 ≤ r981))

def T50_v48 (N : Nat) : List (Nat × Spec) := [(66, s66_v48 N)]
theorem T50_v48_ok (N : Nat) : TabOK Try.prog (tabOf (T50_v48 N)) := tab_cons (fok66_v48 N) (tab_nil)

section
attribute [local go_sem] T50_v48 s66_v48 e_ii de_ii rb_ii d_ii rowAt_zero rowAt_succ List.set_cons_succ List.isEmpty_map List.map_append List.map_eq_nil_iff ne_eq List.length_replicate takeMap dropMap List.length_set Option.isSome_some
theorem D_slices_ContainsFunc_api_Place_api_Place_v48_ok (N : Nat) (s980 : List (Int × Int)) (r : Bool) (h : D_slices_ContainsFunc_api_Place_api_Place_v48 N s980 = some r) : PCall Try.prog 50 [.sl 2 false (s980.map e_ii) [.i 0, .i 0], .clo (.func 48) [] []] (.b r) := by
  refine pcall_fn (T50_v48_ok N) _ Try.func50 ok50 nt50 (by simp) fun _ => ?_
  have hS := T50_v48_ok N
  have F := f0
  unfold ac50 rv50
  unfold D_slices_ContainsFunc_api_Place_api_Place_v48 at h
  try simp only [gd_some, Option.bind_eq_some_iff] at h
  obtain ⟨r981, hr981, h⟩ := h
  replace F := fc hr981 F
  obtain rfl := Option.some.inj h
  refine go hS F ?_
  exact fin F
end

def s50_v48 (N : Nat) : Spec
  | [.sl ys980 _ s980 _, .clo (.func 48) [] []] => some (((ys980 = 2 ∨ s980 = []) ∧ s980 = (s980.map d_ii).map e_ii) ∧ (D_slices_ContainsFunc_api_Place_api_Place_v48 N (s980.map d_ii)).isSome = true, .b ((D_slices_ContainsFunc_api_Place_api_Place_v48 N (s980.map d_ii)).getD false))
  | _ => none
theorem fok50_v48 (N : Nat) : FOK Try.prog 50 (s50_v48 N) := ⟨of50, by
  intro args vc r h hv
  unfold s50_v48 at h
  split at h
  · cases h
    obtain ⟨⟨hy0, hr0⟩, hs⟩ := hv
    obtain ⟨r, hr⟩ := Option.isSome_iff_exists.1 hs
    have hk := D_slices_ContainsFunc_api_Place_api_Place_v48_ok N _ r hr
    simp only [hr, Option.getD_some]
    refine PCall.arg ?_ hk
    simp only [wkL, wk, and_true, true_and, Bool.false_eq_true, false_implies, implies_true]
    repeat' (first | exact True.intro | assumption | apply And.intro)
  · simp at h⟩

/-! putlog/plane.first$1 -/
def D_plane_first_1 (N : Nat) (p983 : Int) (p984 : Int) (x985 : Int) (x986 : Int) (x987 : Int) (x988 : Int) : Option Bool :=
  (D_plane_turn N x985 x986 x987 x988 p983 p984).bind fun r989 =>
  some (decide (0 < r989))

def T72 (N : Nat) : List (Nat × Spec) := [(51, s51 N)]
theorem T72_ok (N : Nat) : TabOK Try.prog (tabOf (T72 N)) := tab_cons (fok51 N) (tab_nil)

section
attribute [local go_sem] T72 s51 rowAt_zero rowAt_succ List.set_cons_succ List.isEmpty_map List.map_append List.map_eq_nil_iff ne_eq List.length_replicate takeMap dropMap List.length_set Option.isSome_some
theorem D_plane_first_1_ok (N : Nat) (p983 : Int) (p984 : Int) (x985 : Int) (x986 : Int) (x987 : Int) (x988 : Int) (r : Bool) (h : D_plane_first_1 N p983 p984 x985 x986 x987 x988 = some r) : PCall Try.prog 72 [.agg [.i p983, .i p984], .ro [.i x985, .i x986] 0, .ro [.i x987, .i x988] 0] (.b r) := by
  refine pcall_fn (T72_ok N) _ Try.func72 ok72 nt72 (by simp) fun _ => ?_
  have hS := T72_ok N
  have F := f0
  unfold ac72 rv72
  unfold D_plane_first_1 at h
  try simp only [gd_some, Option.bind_eq_some_iff] at h
  obtain ⟨r989, hr989, h⟩ := h
  replace F := fc hr989 F
  obtain rfl := Option.some.inj h
  refine go hS F ?_
  exact fin F
end

def s72 (N : Nat) : Spec
  | [.agg [.v (.int .i64 p983), .v (.int .i64 p984)], .ro [.v (.int .i64 x985), .v (.int .i64 x986)] 0, .ro [.v (.int .i64 x987), .v (.int .i64 x988)] 0] => some ((D_plane_first_1 N p983 p984 x985 x986 x987 x988).isSome = true, .b ((D_plane_first_1 N p983 p984 x985 x986 x987 x988).getD false))
  | _ => none
theorem fok72 (N : Nat) : FOK Try.prog 72 (s72 N) := ⟨of72, by
  intro args vc r h hv
  unfold s72 at h
  split at h
  · cases h
    have hs := hv
    obtain ⟨r, hr⟩ := Option.isSome_iff_exists.1 hs
    have hk := D_plane_first_1_ok N _ _ _ _ _ _ r hr
    simp only [hr, Option.getD_some]
    refine PCall.arg ?_ hk
    simp only [wkL, wk, and_true, true_and, Bool.false_eq_true, false_implies, implies_true]
    try trivial
  · simp at h⟩

/-! slices.IndexFunc   putlog/api.Place putlog/api.Place  -/
def D_slices_IndexFunc_api_Place_api_Place_v72_L1 (N : Nat) (s991 : List (Int × Int)) (f992 : Int) (f993 : Int) (f994 : Int) (f995 : Int) : Nat → Int → Option (Sum Unit Int)
  | 0, _ => none
  | n + 1, x1003 =>
    bif decide (x1003 < (s991.length : Int)) then (
      (nth s991 x1003).bind fun (x1004, x1005) =>
      (D_plane_first_1 N x1004 x1005 f992 f993 f994 f995).bind fun r1007 =>
      bif r1007 then (
        some (.inr x1003))
      else (
        gd (I64 (x1003 + 1)) <|
        D_slices_IndexFunc_api_Place_api_Place_v72_L1 N s991 f992 f993 f994 f995 n (x1003 + 1)))
    else (
      some (.inl ()))

def D_slices_IndexFunc_api_Place_api_Place_v72 (N : Nat) (s991 : List (Int × Int)) (f992 : Int) (f993 : Int) (f994 : Int) (f995 : Int) : Option Int :=
  (D_slices_IndexFunc_api_Place_api_Place_v72_L1 N s991 f992 f993 f994 f995 N 0).bind fun o1013 => match o1013 with
    | .inl () => (
      some (-1))
    | .inr r1012 => (
      some r1012)

def T66_v72 (N : Nat) : List (Nat × Spec) := [(72, s72 N)]
theorem T66_v72_ok (N : Nat) : TabOK Try.prog (tabOf (T66_v72 N)) := tab_cons (fok72 N) (tab_nil)

section
attribute [local go_sem] T66_v72 s72 e_ii de_ii rb_ii d_ii rowAt_zero rowAt_succ List.set_cons_succ List.isEmpty_map List.map_append List.map_eq_nil_iff ne_eq List.length_replicate takeMap dropMap List.length_set Option.isSome_some
theorem D_slices_IndexFunc_api_Place_api_Place_v72_ok (N : Nat) (s991 : List (Int × Int)) (f992 : Int) (f993 : Int) (f994 : Int) (f995 : Int) (r : Int) (h : D_slices_IndexFunc_api_Place_api_Place_v72 N s991 f992 f993 f994 f995 = some r) : PCall Try.prog 66 [.sl 2 false (s991.map e_ii) [.i 0, .i 0], .clo (.func 72) [] [.ro [.i f992, .i f993] 0, .ro [.i f994, .i f995] 0]] (.i r) := by
  refine pcall_fn (T66_v72_ok N) _ Try.func66 ok66 nt66 (by simp) fun _ => ?_
  have hS := T66_v72_ok N
  have F := f0
  unfold ac66 rv66
  unfold D_slices_IndexFunc_api_Place_api_Place_v72 at h
  try simp only [gd_some, Option.bind_eq_some_iff] at h
  obtain ⟨o1013, hL1, h⟩ := h
  refine go hS F ?_
  refine awp_cut (fun z : Nat => ⟨[], [], z⟩) (fun z => (.inl () : Sum Unit Int) = o1013) (.x 0) ?_ ?_
  · refine awp_loop (fun y : Nat × Int × Nat => ⟨[(0, .sl 2 false (s991.map e_ii) [.i 0, .i 0]), (1, .clo (.func 72) [] [.ro [.i f992, .i f993] 0, .ro [.i f994, .i f995] 0]), (7, .i (s991.length : Int)), (8, .i y.2.1)], [], y.2.2⟩) (fun y => D_slices_IndexFunc_api_Place_api_Place_v72_L1 N s991 f992 f993 f994 f995 y.1 y.2.1 = some o1013) (fun y => y.1) (N, 0, 2) hL1 ?_ ?_
    · exact leF F
    · rintro ⟨n, x1003, c1002⟩ hB2
      try simp only at hB2
      obtain _ | n := n
      · exact absurd hB2 (by simp [D_slices_IndexFunc_api_Place_api_Place_v72_L1])
      rw [D_slices_IndexFunc_api_Place_api_Place_v72_L1] at hB2
      refine go hS F ?_
      refine cb F (decide (x1003 < (s991.length : Int))) (fun hc3 => ?_) (fun hc3 => ?_)
      · replace hB2 := cond_t hc3 hB2
        try simp only [gd_some, Option.bind_eq_some_iff] at hB2
        obtain ⟨⟨x1004, x1005⟩, hn1005, hB2⟩ := hB2
        have hx1005 : s991.getD x1003.toNat (0, 0) = (x1004, x1005) := ixs hn1005 _
        have hb1005 := (nth_some hn1005).1
        replace F := fc hx1005 F
        try simp only [gd_some, Option.bind_eq_some_iff] at hB2
        obtain ⟨r1007, hr1007, hB2⟩ := hB2
        replace F := fc hr1007 F
        refine go hS F ?_
        refine cb F (r1007) (fun hc4 => ?_) (fun hc4 => ?_)
        · replace hB2 := cond_t hc4 hB2
          obtain rfl := Option.some.inj hB2
          try simp only at h
          obtain rfl := Option.some.inj h
          refine go hS F ?_
          exact fin F
        · replace hB2 := cond_f hc4 hB2
          try simp only [gd_some, Option.bind_eq_some_iff] at hB2
          obtain ⟨hv5, hB2⟩ := hB2
          simp only [I64] at hv5
          refine go hS F ?_
          exact backK_n (n, x1003 + 1, c1002 + 1 + 1 + 1 + 1) hB2 (Nat.lt_succ_self _) (leF F)
      · replace hB2 := cond_f hc3 hB2
        refine go hS F ?_
        exact cutK_h (c1002 + 1) (Option.some.inj hB2) (leF F)
  · rintro c1011 hz6
    subst hz6
    try simp only at h
    obtain rfl := Option.some.inj h
    refine go hS F ?_
    exact fin F
end

def s66_v72 (N : Nat) : Spec
  | [.sl ys991 _ s991 _, .clo (.func 72) [] [.ro [.v (.int .i64 f992), .v (.int .i64 f993)] 0, .ro [.v (.int .i64 f994), .v (.int .i64 f995)] 0]] => some (((ys991 = 2 ∨ s991 = []) ∧ s991 = (s991.map d_ii).map e_ii) ∧ (D_slices_IndexFunc_api_Place_api_Place_v72 N (s991.map d_ii) f992 f993 f994 f995).isSome = true, .i ((D_slices_IndexFunc_api_Place_api_Place_v72 N (s991.map d_ii) f992 f993 f994 f995).getD 0))
  | _ => none
theorem fok66_v72 (N : Nat) : FOK Try.prog 66 (s66_v72 N) := ⟨of66, by
  intro args vc r h hv
  unfold s66_v72 at h
  split at h
  · cases h
    obtain ⟨⟨hy0, hr0⟩, hs⟩ := hv
    obtain ⟨r, hr⟩ := Option.isSome_iff_exists.1 hs
    have hk := D_slices_IndexFunc_api_Place_api_Place_v72_ok N _ _ _ _ _ r hr
    simp only [hr, Option.getD_some]
    refine PCall.arg ?_ hk
    simp only [wkL, wk, and_true, true_and, Bool.false_eq_true, false_implies, implies_true]
    repeat' (first | exact True.intro | assumption | apply And.intro)
  · simp at h⟩

/-! slices.ContainsFunc   putlog/api.Place putlog/api.Place  -/
def D_slices_ContainsFunc_api_Place_api_Place_v72 (N : Nat) (s1014 : List (Int × Int)) (f1015 : Int) (f1016 : Int) (f1017 : Int) (f1018 : Int) : Option Bool :=
  (D_slices_IndexFunc_api_Place_api_Place_v72 N s1014 f1015 f1016 f1017 f1018).bind fun r1019 =>
  some (decide (0 ≤ r1019))

def T50_v72 (N : Nat) : List (Nat × Spec) := [(66, s66_v72 N)]
theorem T50_v72_ok (N : Nat) : TabOK Try.prog (tabOf (T50_v72 N)) := tab_cons (fok66_v72 N) (tab_nil)

section
attribute [local go_sem] T50_v72 s66_v72 e_ii de_ii rb_ii d_ii rowAt_zero rowAt_succ List.set_cons_succ List.isEmpty_map List.map_append List.map_eq_nil_iff ne_eq List.length_replicate takeMap dropMap List.length_set Option.isSome_some
theorem D_slices_ContainsFunc_api_Place_api_Place_v72_ok (N : Nat) (s1014 : List (Int × Int)) (f1015 : Int) (f1016 : Int) (f1017 : Int) (f1018 : Int) (r : Bool) (h : D_slices_ContainsFunc_api_Place_api_Place_v72 N s1014 f1015 f1016 f1017 f1018 = some r) : PCall Try.prog 50 [.sl 2 false (s1014.map e_ii) [.i 0, .i 0], .clo (.func 72) [] [.ro [.i f1015, .i f1016] 0, .ro [.i f1017, .i f1018] 0]] (.b r) := by
  refine pcall_fn (T50_v72_ok N) _ Try.func50 ok50 nt50 (by simp) fun _ => ?_
  have hS := T50_v72_ok N
  have F := f0
  unfold ac50 rv50
  unfold D_slices_ContainsFunc_api_Place_api_Place_v72 at h
  try simp only [gd_some, Option.bind_eq_some_iff] at h
  obtain ⟨r1019, hr1019, h⟩ := h
  replace F := fc hr1019 F
  obtain rfl := Option.some.inj h
  refine go hS F ?_
  exact fin F
end

def s50_v72 (N : Nat) : Spec
  | [.sl ys1014 _ s1014 _, .clo (.func 72) [] [.ro [.v (.int .i64 f1015), .v (.int .i64 f1016)] 0, .ro [.v (.int .i64 f1017), .v (.int .i64 f1018)] 0]] => some (((ys1014 = 2 ∨ s1014 = []) ∧ s1014 = (s1014.map d_ii).map e_ii) ∧ (D_slices_ContainsFunc_api_Place_api_Place_v72 N (s1014.map d_ii) f1015 f1016 f1017 f1018).isSome = true, .b ((D_slices_ContainsFunc_api_Place_api_Place_v72 N (s1014.map d_ii) f1015 f1016 f1017 f1018).getD false))
  | _ => none
theorem fok50_v72 (N : Nat) : FOK Try.prog 50 (s50_v72 N) := ⟨of50, by
  intro args vc r h hv
  unfold s50_v72 at h
  split at h
  · cases h
    obtain ⟨⟨hy0, hr0⟩, hs⟩ := hv
    obtain ⟨r, hr⟩ := Option.isSome_iff_exists.1 hs
    have hk := D_slices_ContainsFunc_api_Place_api_Place_v72_ok N _ _ _ _ _ r hr
    simp only [hr, Option.getD_some]
    refine PCall.arg ?_ hk
    simp only [wkL, wk, and_true, true_and, Bool.false_eq_true, false_implies, implies_true]
    repeat' (first | exact True.intro | assumption | apply And.intro)
  · simp at h⟩

/-! putlog/plane.Valid -/
def D_plane_Valid_L3 (N : Nat) (l1021 : List (Int × Int)) (x1038 : Int) (x1039 : Int) (x1040 : Int) : Nat → Int → Option (Sum Unit Bool)
  | 0, _ => none
  | n + 1, x1047 =>
    bif decide (x1047 < (l1021.length : Int)) then (
      (nth l1021 x1047).bind fun (x1048, x1049) =>
      gd (((decide (x1047 ≠ x1038)) && (decide (x1047 ≠ (x1038 + 1).tmod (l1021.length : Int)))) = true → (0 ≤ (x1038 + 1).tmod (l1021.length : Int) ∧ (x1038 + 1).tmod (l1021.length : Int) < (l1021.length : Int))) <|
      gd (((decide (x1047 ≠ x1038)) && (decide (x1047 ≠ (x1038 + 1).tmod (l1021.length : Int)))) = true → ((D_plane_turn N x1039 x1040 ((l1021.getD ((x1038 + 1).tmod (l1021.length : Int)).toNat (0, 0)).1) ((l1021.getD ((x1038 + 1).tmod (l1021.length : Int)).toNat (0, 0)).2) x1048 x1049).isSome = true)) <|
      bif ((decide (x1047 ≠ x1038)) && (decide (x1047 ≠ (x1038 + 1).tmod (l1021.length : Int)))) && (decide ((D_plane_turn N x1039 x1040 ((l1021.getD ((x1038 + 1).tmod (l1021.length : Int)).toNat (0, 0)).1) ((l1021.getD ((x1038 + 1).tmod (l1021.length : Int)).toNat (0, 0)).2) x1048 x1049).getD 0 ≤ 0)) then (
        some (.inr false))
      else (
        gd (I64 (x1047 + 1)) <|
        D_plane_Valid_L3 N l1021 x1038 x1039 x1040 n (x1047 + 1)))
    else (
      some (.inl ()))

def D_plane_Valid_L1 (N : Nat) (l1021 : List (Int × Int)) : Nat → Int → Option (Sum Unit Bool)
  | 0, _ => none
  | n + 1, x1038 =>
    bif decide (x1038 < (l1021.length : Int)) then (
      (nth l1021 x1038).bind fun (x1039, x1040) =>
      gd (I64 (x1038 + 1)) <|
      gd ((l1021.length : Int) ≠ 0) <|
      (D_plane_Valid_L3 N l1021 x1038 x1039 x1040 N 0).bind fun o1055 => match o1055 with
        | .inl () => (
          gd (I64 (x1038 + 1)) <|
          D_plane_Valid_L1 N l1021 n (x1038 + 1))
        | .inr r1054 => (
          some (.inr r1054)))
    else (
      some (.inl ()))

def D_plane_Valid (N : Nat) (l1021 : List (Int × Int)) : Option Bool :=
  gd ((!((decide ((l1021.length : Int) < 3)) || (decide (8 < (l1021.length : Int))))) = true → ((D_slices_ContainsFunc_api_Place_api_Place_v48 N l1021).isSome = true)) <|
  bif ((decide ((l1021.length : Int) < 3)) || (decide (8 < (l1021.length : Int)))) || ((D_slices_ContainsFunc_api_Place_api_Place_v48 N l1021).getD false) then (
    some false)
  else (
    (D_plane_Valid_L1 N l1021 N 0).bind fun o1060 => match o1060 with
      | .inl () => (
        some true)
      | .inr r1059 => (
        some r1059))

def T19 (N : Nat) : List (Nat × Spec) := [(50, s50_v48 N), (51, s51 N)]
theorem T19_ok (N : Nat) : TabOK Try.prog (tabOf (T19 N)) := tab_cons (fok50_v48 N) (tab_cons (fok51 N) (tab_nil))

section
attribute [local go_sem] T19 s50_v48 s51 e_ii de_ii rb_ii d_ii rowAt_zero rowAt_succ List.set_cons_succ List.isEmpty_map List.map_append List.map_eq_nil_iff ne_eq List.length_replicate takeMap dropMap List.length_set Option.isSome_some
theorem D_plane_Valid_ok (N : Nat) (l1021 : List (Int × Int)) (r : Bool) (h : D_plane_Valid N l1021 = some r) : PCall Try.prog 19 [.sl 2 false (l1021.map e_ii) [.i 0, .i 0]] (.b r) := by
  refine pcall_fn (T19_ok N) _ Try.func19 ok19 nt19 (by simp) fun _ => ?_
  have hS := T19_ok N
  have F := f0
  unfold ac19 rv19
  unfold D_plane_Valid at h
  try simp only [gd_some, Option.bind_eq_some_iff] at h
  obtain ⟨hv1, h⟩ := h
  refine go hS F ?_
  refine cb F (((decide ((l1021.length : Int) < 3)) || (decide (8 < (l1021.length : Int)))) || ((D_slices_ContainsFunc_api_Place_api_Place_v48 N l1021).getD false)) (fun hc2 => ?_) (fun hc2 => ?_)
  · replace h := cond_t hc2 h
    obtain rfl := Option.some.inj h
    refine go hS F ?_
    exact fin F
  · replace h := cond_f hc2 h
    try simp only [gd_some, Option.bind_eq_some_iff] at h
    obtain ⟨o1060, hL3, h⟩ := h
    refine go hS F ?_
    refine awp_cut (fun z : Nat => ⟨[], [], z⟩) (fun z => (.inl () : Sum Unit Bool) = o1060) (.x 0) ?_ ?_
    · refine awp_loop (fun y : Nat × Int × Nat => ⟨[(0, .sl 2 false (l1021.map e_ii) [.i 0, .i 0]), (20, .sl 2 false (l1021.map e_ii) [.i 0, .i 0]), (21, .i (l1021.length : Int)), (22, .i y.2.1)], [], y.2.2⟩) (fun y => D_plane_Valid_L1 N l1021 y.1 y.2.1 = some o1060) (fun y => y.1) (N, 0, 3) hL3 ?_ ?_
      · exact leF F
      · rintro ⟨n, x1038, c1037⟩ hB4
        try simp only at hB4
        obtain _ | n := n
        · exact absurd hB4 (by simp [D_plane_Valid_L1])
        rw [D_plane_Valid_L1] at hB4
        refine go hS F ?_
        refine cb F (decide (x1038 < (l1021.length : Int))) (fun hc5 => ?_) (fun hc5 => ?_)
        · replace hB4 := cond_t hc5 hB4
          try simp only [gd_some, Option.bind_eq_some_iff] at hB4
          obtain ⟨⟨x1039, x1040⟩, hn1040, hB4⟩ := hB4
          have hx1040 : l1021.getD x1038.toNat (0, 0) = (x1039, x1040) := ixs hn1040 _
          have hb1040 := (nth_some hn1040).1
          replace F := fc hx1040 F
          try simp only [gd_some, Option.bind_eq_some_iff] at hB4
          obtain ⟨hv6, hv7, hB4⟩ := hB4
          simp only [I64] at hv6
          try simp only [gd_some, Option.bind_eq_some_iff] at hB4
          obtain ⟨o1055, hL8, hB4⟩ := hB4
          refine go hS F ?_
          refine awp_cut (fun z : Nat => ⟨[(0, .sl 2 false (l1021.map e_ii) [.i 0, .i 0]), (20, .sl 2 false (l1021.map e_ii) [.i 0, .i 0]), (21, .i (l1021.length : Int)), (22, .i x1038)], [], z⟩) (fun z => (.inl () : Sum Unit Bool) = o1055) (.x 2) ?_ ?_
          · refine awp_loop (fun y : Nat × Int × Nat => ⟨[(0, .sl 2 false (l1021.map e_ii) [.i 0, .i 0]), (3, .i x1038), (4, .box (503, c1037 + 1 + 1) 0), (5, .i ((x1038 + 1).tmod (l1021.length : Int))), (20, .sl 2 false (l1021.map e_ii) [.i 0, .i 0]), (21, .i (l1021.length : Int)), (22, .i x1038), (32, .sl 2 false (l1021.map e_ii) [.i 0, .i 0]), (33, .i (l1021.length : Int)), (34, .i y.2.1)], [(.c (503, c1037 + 1 + 1) 0, .i x1039), (.c (503, c1037 + 1 + 1) 1, .i x1040)], y.2.2⟩) (fun y => D_plane_Valid_L3 N l1021 x1038 x1039 x1040 y.1 y.2.1 = some o1055) (fun y => y.1) (N, 0, c1037 + 1 + 1 + 1 + 1) hL8 ?_ ?_
            · exact leF F
            · rintro ⟨n, x1047, c1046⟩ hB9
              try simp only at hB9
              obtain _ | n := n
              · exact absurd hB9 (by simp [D_plane_Valid_L3])
              rw [D_plane_Valid_L3] at hB9
              refine go hS F ?_
              refine cb F (decide (x1047 < (l1021.length : Int))) (fun hc10 => ?_) (fun hc10 => ?_)
              · replace hB9 := cond_t hc10 hB9
                try simp only [gd_some, Option.bind_eq_some_iff] at hB9
                obtain ⟨⟨x1048, x1049⟩, hn1049, hB9⟩ := hB9
                have hx1049 : l1021.getD x1047.toNat (0, 0) = (x1048, x1049) := ixs hn1049 _
                have hb1049 := (nth_some hn1049).1
                replace F := fc hx1049 F
                try simp only [gd_some, Option.bind_eq_some_iff] at hB9
                obtain ⟨hv11, hv12, hB9⟩ := hB9
                refine go hS F ?_
                refine cb F (((decide (x1047 ≠ x1038)) && (decide (x1047 ≠ (x1038 + 1).tmod (l1021.length : Int)))) && (decide ((D_plane_turn N x1039 x1040 ((l1021.getD ((x1038 + 1).tmod (l1021.length : Int)).toNat (0, 0)).1) ((l1021.getD ((x1038 + 1).tmod (l1021.length : Int)).toNat (0, 0)).2) x1048 x1049).getD 0 ≤ 0))) (fun hc13 => ?_) (fun hc13 => ?_)
                · replace hB9 := cond_t hc13 hB9
                  obtain rfl := Option.some.inj hB9
                  try simp only at hB4
                  obtain rfl := Option.some.inj hB4
                  try simp only at h
                  obtain rfl := Option.some.inj h
                  refine go hS F ?_
                  exact fin F
                · replace hB9 := cond_f hc13 hB9
                  try simp only [gd_some, Option.bind_eq_some_iff] at hB9
                  obtain ⟨hv14, hB9⟩ := hB9
                  simp only [I64] at hv14
                  refine go hS F ?_
                  exact backK_n (n, x1047 + 1, c1046 + 1 + 1 + 1 + 1) hB9 (Nat.lt_succ_self _) (leF F)
              · replace hB9 := cond_f hc10 hB9
                refine go hS F ?_
                exact cutK_h (c1046 + 1) (Option.some.inj hB9) (leF F)
          · rintro c1053 hz15
            subst hz15
            try simp only at hB4
            try simp only [gd_some, Option.bind_eq_some_iff] at hB4
            obtain ⟨hv16, hB4⟩ := hB4
            simp only [I64] at hv16
            refine go hS F ?_
            exact backK_n (n, x1038 + 1, c1053 + 1) hB4 (Nat.lt_succ_self _) (leF F)
        · replace hB4 := cond_f hc5 hB4
          refine go hS F ?_
          exact cutK_h (c1037 + 1) (Option.some.inj hB4) (leF F)
    · rintro c1058 hz17
      subst hz17
      try simp only at h
      obtain rfl := Option.some.inj h
      refine go hS F ?_
      exact fin F
end

def s19 (N : Nat) : Spec
  | [.sl yl1021 _ l1021 _] => some (((yl1021 = 2 ∨ l1021 = []) ∧ l1021 = (l1021.map d_ii).map e_ii) ∧ (D_plane_Valid N (l1021.map d_ii)).isSome = true, .b ((D_plane_Valid N (l1021.map d_ii)).getD false))
  | _ => none
theorem fok19 (N : Nat) : FOK Try.prog 19 (s19 N) := ⟨of19, by
  intro args vc r h hv
  unfold s19 at h
  split at h
  · cases h
    obtain ⟨⟨hy0, hr0⟩, hs⟩ := hv
    obtain ⟨r, hr⟩ := Option.isSome_iff_exists.1 hs
    have hk := D_plane_Valid_ok N _ r hr
    simp only [hr, Option.getD_some]
    refine PCall.arg ?_ hk
    simp only [wkL, wk, and_true, true_and, Bool.false_eq_true, false_implies, implies_true]
    repeat' (first | exact True.intro | assumption | apply And.intro)
  · simp at h⟩

/-! putlog/plane.Area2 -/
def D_plane_Area2_L1 (N : Nat) (l1061 : List (Int × Int)) : List ((Int × Int) × (Int × Int)) → Int → Option Int
  | [], out1075 =>
    some out1075
  | ((y1076, y1077), (y1078, y1079)) :: ys, out1075 =>
    (nth l1061 0).bind fun (x1080, x1081) =>
    (D_plane_turn N x1080 x1081 y1076 y1077 y1078 y1079).bind fun r1083 =>
    gd (I64 (out1075 + r1083)) <|
    D_plane_Area2_L1 N l1061 ys (out1075 + r1083)

def D_plane_Area2 (N : Nat) (l1061 : List (Int × Int)) : Option Int :=
  (D_plane_Valid N l1061).bind fun r1062 =>
  bif !r1062 then (
    some 0)
  else (
    gd (l1061.length ≤ 1000000000) <|
    (D_plane_Area2_L1 N l1061 (edgesL l1061) 0).bind fun out1088 =>
    some out1088)

def T20 (N : Nat) : List (Nat × Spec) := [(19, s19 N), (46, sEdges), (51, s51 N)]
theorem T20_ok (N : Nat) : TabOK Try.prog (tabOf (T20 N)) := tab_cons (fok19 N) (tab_cons edges_fok (tab_cons (fok51 N) (tab_nil)))

section
attribute [local go_sem] T20 s19 sEdges s51 e_ii de_ii rb_ii d_ii rowAt_zero rowAt_succ List.set_cons_succ List.isEmpty_map List.map_append List.map_eq_nil_iff ne_eq List.length_replicate takeMap dropMap List.length_set Option.isSome_some
theorem D_plane_Area2_ok (N : Nat) (l1061 : List (Int × Int)) (r : Int) (h : D_plane_Area2 N l1061 = some r) : PCall Try.prog 20 [.sl 2 false (l1061.map e_ii) [.i 0, .i 0]] (.i r) := by
  refine pcall_fn (T20_ok N) _ Try.func20 ok20 nt20 (by simp) fun _ => ?_
  have hS := T20_ok N
  have F := f0
  unfold ac20 rv20
  unfold D_plane_Area2 at h
  try simp only [gd_some, Option.bind_eq_some_iff] at h
  obtain ⟨r1062, hr1062, h⟩ := h
  replace F := fc hr1062 F
  refine go hS F ?_
  refine cb F (!r1062) (fun hc1 => ?_) (fun hc1 => ?_)
  · replace h := cond_t hc1 h
    obtain rfl := Option.some.inj h
    refine go hS F ?_
    exact fin F
  · replace h := cond_f hc1 h
    try simp only [gd_some, Option.bind_eq_some_iff] at h
    obtain ⟨hv2, h⟩ := h
    try simp only [gd_some, Option.bind_eq_some_iff] at h
    obtain ⟨o1089, hL3, h⟩ := h
    refine go hS F ?_
    refine awp_cut (fun z : Int × Nat => ⟨[(3, .box (300, 3) 0)], [(.c (300, 3) 0, .i z.1)], z.2⟩) (fun z => (z.1 : Int) = o1089) .n ?_ ?_
    · refine awp_rfun (fun y : Nat × Int × Nat => ([(.c (300, 3) 0, .i y.2.1), (.c (0, 1) 0, .sl 2 false (l1061.map e_ii) [.i 0, .i 0])], y.2.2)) (fun y => D_plane_Area2_L1 N l1061 ((edgesL l1061).drop y.1) y.2.1 = some o1089 ∧ y.1 ≤ (edgesL l1061).length) (fun y => y.1) (0, 0, 4) (by simp only [go_sem, seval, F] <;> eq_refl) (edges_it l1061 false (by assumption)) of64 ⟨rfl, rfl⟩ (by simp) (by intro a ha; obtain ⟨y, _, rfl⟩ := List.mem_map.1 ha; exact ⟨rfl, rfl⟩) ⟨hL3, Nat.zero_le _⟩ rfl ?_ ?_ ?_
      · exact leF F
      · rintro l ⟨n, out1075, c1074⟩ ⟨hB4, hle⟩ args ha5
        obtain ⟨⟨⟨y1076, y1077⟩, ⟨y1078, y1079⟩⟩, hy6, rfl, hlt⟩ := rd_step ha5
        rw [hy6, D_plane_Area2_L1] at hB4
        try simp only at hB4
        clear ha5 hy6
        simp only [edA, putps]
        try simp only [gd_some, Option.bind_eq_some_iff] at hB4
        obtain ⟨⟨x1080, x1081⟩, hn1081, hB4⟩ := hB4
        have hx1081 : l1061.getD 0 (0, 0) = (x1080, x1081) := ixs hn1081 _
        have hb1081 := (nth_some hn1081).1
        replace F := fc hx1081 F
        try simp only [gd_some, Option.bind_eq_some_iff] at hB4
        obtain ⟨r1083, hr1083, hv7, hB4⟩ := hB4
        simp only [I64] at hv7
        replace F := fc hr1083 F
        refine go hS F ?_
        exact rngK_n (n + 1, out1075 + r1083, c1074 + 1 + 1 + 1) ⟨hB4, by omega⟩ rfl (leF F)
      · rintro ⟨n, out1075, c1074⟩ ⟨hB4, hle⟩ hk
        rw [show n = _ from hk, drop_all, D_plane_Area2_L1] at hB4
        try simp only at hB4
        refine go hS F ?_
        exact cutK_h (out1075, c1074) (Option.some.inj hB4) (leF F)
    · rintro ⟨out1088, c1087⟩ hz8
      subst hz8
      try simp only at h
      obtain rfl := Option.some.inj h
      refine go hS F ?_
      exact fin F
end

def s20 (N : Nat) : Spec
  | [.sl yl1061 _ l1061 _] => some (((yl1061 = 2 ∨ l1061 = []) ∧ l1061 = (l1061.map d_ii).map e_ii) ∧ (D_plane_Area2 N (l1061.map d_ii)).isSome = true, .i ((D_plane_Area2 N (l1061.map d_ii)).getD 0))
  | _ => none
theorem fok20 (N : Nat) : FOK Try.prog 20 (s20 N) := ⟨of20, by
  intro args vc r h hv
  unfold s20 at h
  split at h
  · cases h
    obtain ⟨⟨hy0, hr0⟩, hs⟩ := hv
    obtain ⟨r, hr⟩ := Option.isSome_iff_exists.1 hs
    have hk := D_plane_Area2_ok N _ r hr
    simp only [hr, Option.getD_some]
    refine PCall.arg ?_ hk
    simp only [wkL, wk, and_true, true_and, Bool.false_eq_true, false_implies, implies_true]
    repeat' (first | exact True.intro | assumption | apply And.intro)
  · simp at h⟩

/-! putlog/plane.Moments -/
def D_plane_Moments_L1 (N : Nat) (l1090 : List (Int × Int)) : List ((Int × Int) × (Int × Int)) → Int → Int → Option (Int × Int)
  | [], y1104, x1105 =>
    some (y1104, x1105)
  | ((y1106, y1107), (y1108, y1109)) :: ys, y1104, x1105 =>
    (nth l1090 0).bind fun (x1110, x1111) =>
    (D_plane_turn N x1110 x1111 y1106 y1107 y1108 y1109).bind fun r1113 =>
    gd (I64 (x1110 + y1106)) <|
    gd (I64 ((x1110 + y1106) + y1108)) <|
    gd (I64 (r1113 * ((x1110 + y1106) + y1108))) <|
    gd (I64 (x1105 + (r1113 * ((x1110 + y1106) + y1108)))) <|
    gd (I64 (x1111 + y1107)) <|
    gd (I64 ((x1111 + y1107) + y1109)) <|
    gd (I64 (r1113 * ((x1111 + y1107) + y1109))) <|
    gd (I64 (y1104 + (r1113 * ((x1111 + y1107) + y1109)))) <|
    D_plane_Moments_L1 N l1090 ys (y1104 + (r1113 * ((x1111 + y1107) + y1109))) (x1105 + (r1113 * ((x1110 + y1106) + y1108)))

def D_plane_Moments (N : Nat) (l1090 : List (Int × Int)) : Option (Int × Int) :=
  (D_plane_Valid N l1090).bind fun r1091 =>
  bif !r1091 then (
    some (0, 0))
  else (
    gd (l1090.length ≤ 1000000000) <|
    (D_plane_Moments_L1 N l1090 (edgesL l1090) 0 0).bind fun (y1119, x1120) =>
    some (x1120, y1119))

def T25 (N : Nat) : List (Nat × Spec) := [(19, s19 N), (46, sEdges), (51, s51 N)]
theorem T25_ok (N : Nat) : TabOK Try.prog (tabOf (T25 N)) := tab_cons (fok19 N) (tab_cons edges_fok (tab_cons (fok51 N) (tab_nil)))

section
attribute [local go_sem] T25 s19 sEdges s51 e_ii de_ii rb_ii d_ii rowAt_zero rowAt_succ List.set_cons_succ List.isEmpty_map List.map_append List.map_eq_nil_iff ne_eq List.length_replicate takeMap dropMap List.length_set Option.isSome_some
theorem D_plane_Moments_ok (N : Nat) (l1090 : List (Int × Int)) (r : Int × Int) (h : D_plane_Moments N l1090 = some r) : PCall Try.prog 25 [.sl 2 false (l1090.map e_ii) [.i 0, .i 0]] (.tup [.i r.1, .i r.2]) := by
  refine pcall_fn (T25_ok N) _ Try.func25 ok25 nt25 (by simp) fun _ => ?_
  have hS := T25_ok N
  have F := f0
  unfold ac25 rv25
  unfold D_plane_Moments at h
  try simp only [gd_some, Option.bind_eq_some_iff] at h
  obtain ⟨r1091, hr1091, h⟩ := h
  replace F := fc hr1091 F
  refine go hS F ?_
  refine cb F (!r1091) (fun hc1 => ?_) (fun hc1 => ?_)
  · replace h := cond_t hc1 h
    obtain rfl := Option.some.inj h
    refine go hS F ?_
    exact fin F
  · replace h := cond_f hc1 h
    try simp only [gd_some, Option.bind_eq_some_iff] at h
    obtain ⟨hv2, h⟩ := h
    try simp only [gd_some, Option.bind_eq_some_iff] at h
    obtain ⟨o1121, hL3, h⟩ := h
    refine go hS F ?_
    refine awp_cut (fun z : Int × Int × Nat => ⟨[(2, .box (1, 1) 0), (3, .box (2, 1) 0)], [(.c (2, 1) 0, .i z.1), (.c (1, 1) 0, .i z.2.1)], z.2.2⟩) (fun z => ((z.1, z.2.1) : Int × Int) = o1121) .n ?_ ?_
    · refine awp_rfun (fun y : Nat × Int × Int × Nat => ([(.c (2, 1) 0, .i y.2.1), (.c (1, 1) 0, .i y.2.2.1), (.c (0, 1) 0, .sl 2 false (l1090.map e_ii) [.i 0, .i 0])], y.2.2.2)) (fun y => D_plane_Moments_L1 N l1090 ((edgesL l1090).drop y.1) y.2.1 y.2.2.1 = some o1121 ∧ y.1 ≤ (edgesL l1090).length) (fun y => y.1) (0, 0, 0, 3) (by simp only [go_sem, seval, F] <;> eq_refl) (edges_it l1090 false (by assumption)) of64 ⟨rfl, rfl⟩ (by simp) (by intro a ha; obtain ⟨y, _, rfl⟩ := List.mem_map.1 ha; exact ⟨rfl, rfl⟩) ⟨hL3, Nat.zero_le _⟩ rfl ?_ ?_ ?_
      · exact leF F
      · rintro l ⟨n, y1104, x1105, c1103⟩ ⟨hB4, hle⟩ args ha5
        obtain ⟨⟨⟨y1106, y1107⟩, ⟨y1108, y1109⟩⟩, hy6, rfl, hlt⟩ := rd_step ha5
        rw [hy6, D_plane_Moments_L1] at hB4
        try simp only at hB4
        clear ha5 hy6
        simp only [edA, putps]
        try simp only [gd_some, Option.bind_eq_some_iff] at hB4
        obtain ⟨⟨x1110, x1111⟩, hn1111, hB4⟩ := hB4
        have hx1111 : l1090.getD 0 (0, 0) = (x1110, x1111) := ixs hn1111 _
        have hb1111 := (nth_some hn1111).1
        replace F := fc hx1111 F
        try simp only [gd_some, Option.bind_eq_some_iff] at hB4
        obtain ⟨r1113, hr1113, hv7, hv8, hv9, hv10, hv11, hv12, hv13, hv14, hB4⟩ := hB4
        simp only [I64] at hv7
        simp only [I64] at hv8
        simp only [I64] at hv9
        simp only [I64] at hv10
        simp only [I64] at hv11
        simp only [I64] at hv12
        simp only [I64] at hv13
        simp only [I64] at hv14
        replace F := fc hr1113 F
        refine go hS F ?_
        exact rngK_n (n + 1, y1104 + (r1113 * ((x1111 + y1107) + y1109)), x1105 + (r1113 * ((x1110 + y1106) + y1108)), c1103 + 1 + 1 + 1 + 1 + 1) ⟨hB4, by omega⟩ rfl (leF F)
      · rintro ⟨n, y1104, x1105, c1103⟩ ⟨hB4, hle⟩ hk
        rw [show n = _ from hk, drop_all, D_plane_Moments_L1] at hB4
        try simp only at hB4
        refine go hS F ?_
        exact cutK_h (y1104, x1105, c1103) (Option.some.inj hB4) (leF F)
    · rintro ⟨y1119, x1120, c1118⟩ hz15
      subst hz15
      try simp only at h
      obtain rfl := Option.some.inj h
      refine go hS F ?_
      exact fin F
end

def s25 (N : Nat) : Spec
  | [.sl yl1090 _ l1090 _] => some (((yl1090 = 2 ∨ l1090 = []) ∧ l1090 = (l1090.map d_ii).map e_ii) ∧ (D_plane_Moments N (l1090.map d_ii)).isSome = true, .tup [.i (((D_plane_Moments N (l1090.map d_ii)).getD (0, 0)).1), .i (((D_plane_Moments N (l1090.map d_ii)).getD (0, 0)).2)])
  | _ => none
theorem fok25 (N : Nat) : FOK Try.prog 25 (s25 N) := ⟨of25, by
  intro args vc r h hv
  unfold s25 at h
  split at h
  · cases h
    obtain ⟨⟨hy0, hr0⟩, hs⟩ := hv
    obtain ⟨r, hr⟩ := Option.isSome_iff_exists.1 hs
    have hk := D_plane_Moments_ok N _ r hr
    simp only [hr, Option.getD_some]
    refine PCall.arg ?_ hk
    simp only [wkL, wk, and_true, true_and, Bool.false_eq_true, false_implies, implies_true]
    repeat' (first | exact True.intro | assumption | apply And.intro)
  · simp at h⟩

/-! putlog/plane.Lattice -/
def D_plane_Lattice_L1 (N : Nat) : List ((Int × Int) × (Int × Int)) → Int → Option Int
  | [], boundary1133 =>
    some boundary1133
  | ((y1134, y1135), (y1136, y1137)) :: ys, boundary1133 =>
    gd (I64 (y1136 - y1134)) <|
    gd (I64 (y1137 - y1135)) <|
    (D_plane_gcd N (y1136 - y1134) (y1137 - y1135)).bind fun r1138 =>
    gd (I64 (boundary1133 + r1138)) <|
    D_plane_Lattice_L1 N ys (boundary1133 + r1138)

def D_plane_Lattice (N : Nat) (l1122 : List (Int × Int)) : Option (Int × Int) :=
  (D_plane_Valid N l1122).bind fun r1123 =>
  bif !r1123 then (
    some (0, 0))
  else (
    gd (l1122.length ≤ 1000000000) <|
    (D_plane_Lattice_L1 N (edgesL l1122) 0).bind fun boundary1143 =>
    (D_plane_Area2 N l1122).bind fun r1145 =>
    gd (I64 (r1145 - boundary1143)) <|
    gd (I64 ((r1145 - boundary1143) + 2)) <|
    gd (I64 (((r1145 - boundary1143) + 2).tdiv 2)) <|
    some (((r1145 - boundary1143) + 2).tdiv 2, boundary1143))

def T16 (N : Nat) : List (Nat × Spec) := [(19, s19 N), (46, sEdges), (47, s47 N), (20, s20 N)]
theorem T16_ok (N : Nat) : TabOK Try.prog (tabOf (T16 N)) := tab_cons (fok19 N) (tab_cons edges_fok (tab_cons (fok47 N) (tab_cons (fok20 N) (tab_nil))))

section
attribute [local go_sem] T16 s19 sEdges s47 s20 e_ii de_ii rb_ii d_ii rowAt_zero rowAt_succ List.set_cons_succ List.isEmpty_map List.map_append List.map_eq_nil_iff ne_eq List.length_replicate takeMap dropMap List.length_set Option.isSome_some
theorem D_plane_Lattice_ok (N : Nat) (l1122 : List (Int × Int)) (r : Int × Int) (h : D_plane_Lattice N l1122 = some r) : PCall Try.prog 16 [.sl 2 false (l1122.map e_ii) [.i 0, .i 0]] (.tup [.i r.1, .i r.2]) := by
  refine pcall_fn (T16_ok N) _ Try.func16 ok16 nt16 (by simp) fun _ => ?_
  have hS := T16_ok N
  have F := f0
  unfold ac16 rv16
  unfold D_plane_Lattice at h
  try simp only [gd_some, Option.bind_eq_some_iff] at h
  obtain ⟨r1123, hr1123, h⟩ := h
  replace F := fc hr1123 F
  refine go hS F ?_
  refine cb F (!r1123) (fun hc1 => ?_) (fun hc1 => ?_)
  · replace h := cond_t hc1 h
    obtain rfl := Option.some.inj h
    refine go hS F ?_
    exact fin F
  · replace h := cond_f hc1 h
    try simp only [gd_some, Option.bind_eq_some_iff] at h
    obtain ⟨hv2, h⟩ := h
    try simp only [gd_some, Option.bind_eq_some_iff] at h
    obtain ⟨o1144, hL3, h⟩ := h
    refine go hS F ?_
    refine awp_cut (fun z : Int × Nat => ⟨[(0, .sl 2 false (l1122.map e_ii) [.i 0, .i 0]), (4, .box (300, 3) 0)], [(.c (300, 3) 0, .i z.1)], z.2⟩) (fun z => (z.1 : Int) = o1144) .n ?_ ?_
    · refine awp_rfun (fun y : Nat × Int × Nat => ([(.c (300, 3) 0, .i y.2.1)], y.2.2)) (fun y => D_plane_Lattice_L1 N ((edgesL l1122).drop y.1) y.2.1 = some o1144 ∧ y.1 ≤ (edgesL l1122).length) (fun y => y.1) (0, 0, 4) (by simp only [go_sem, seval, F] <;> eq_refl) (edges_it l1122 false (by assumption)) of64 ⟨rfl, rfl⟩ (by simp) (by intro a ha; obtain ⟨y, _, rfl⟩ := List.mem_map.1 ha; exact ⟨rfl, rfl⟩) ⟨hL3, Nat.zero_le _⟩ rfl ?_ ?_ ?_
      · exact leF F
      · rintro l ⟨n, boundary1133, c1132⟩ ⟨hB4, hle⟩ args ha5
        obtain ⟨⟨⟨y1134, y1135⟩, ⟨y1136, y1137⟩⟩, hy6, rfl, hlt⟩ := rd_step ha5
        rw [hy6, D_plane_Lattice_L1] at hB4
        try simp only at hB4
        clear ha5 hy6
        simp only [edA, putps]
        try simp only [gd_some, Option.bind_eq_some_iff] at hB4
        obtain ⟨hv7, hv8, r1138, hr1138, hv9, hB4⟩ := hB4
        simp only [I64] at hv7
        simp only [I64] at hv8
        simp only [I64] at hv9
        replace F := fc hr1138 F
        refine go hS F ?_
        exact rngK_n (n + 1, boundary1133 + r1138, c1132 + 1 + 1 + 1) ⟨hB4, by omega⟩ rfl (leF F)
      · rintro ⟨n, boundary1133, c1132⟩ ⟨hB4, hle⟩ hk
        rw [show n = _ from hk, drop_all, D_plane_Lattice_L1] at hB4
        try simp only at hB4
        refine go hS F ?_
        exact cutK_h (boundary1133, c1132) (Option.some.inj hB4) (leF F)
    · rintro ⟨boundary1143, c1142⟩ hz10
      subst hz10
      try simp only at h
      try simp only [gd_some, Option.bind_eq_some_iff] at h
      obtain ⟨r1145, hr1145, hv11, hv12, hv13, h⟩ := h
      simp only [I64] at hv11
      simp only [I64] at hv12
      simp only [I64] at hv13
      replace F := fc hr1145 F
      obtain rfl := Option.some.inj h
      refine go hS F ?_
      exact fin F
end

def s16 (N : Nat) : Spec
  | [.sl yl1122 _ l1122 _] => some (((yl1122 = 2 ∨ l1122 = []) ∧ l1122 = (l1122.map d_ii).map e_ii) ∧ (D_plane_Lattice N (l1122.map d_ii)).isSome = true, .tup [.i (((D_plane_Lattice N (l1122.map d_ii)).getD (0, 0)).1), .i (((D_plane_Lattice N (l1122.map d_ii)).getD (0, 0)).2)])
  | _ => none
theorem fok16 (N : Nat) : FOK Try.prog 16 (s16 N) := ⟨of16, by
  intro args vc r h hv
  unfold s16 at h
  split at h
  · cases h
    obtain ⟨⟨hy0, hr0⟩, hs⟩ := hv
    obtain ⟨r, hr⟩ := Option.isSome_iff_exists.1 hs
    have hk := D_plane_Lattice_ok N _ r hr
    simp only [hr, Option.getD_some]
    refine PCall.arg ?_ hk
    simp only [wkL, wk, and_true, true_and, Bool.false_eq_true, false_implies, implies_true]
    repeat' (first | exact True.intro | assumption | apply And.intro)
  · simp at h⟩

/-! putlog/plane.Inside -/
def D_plane_Inside (N : Nat) (l1147 : List (Int × Int)) (p1148 : Int) (p1149 : Int) : Option Int :=
  (D_plane_Valid N l1147).bind fun r1150 =>
  gd ((!(!r1150)) = true → ((D_plane_isOff N p1148 p1149).isSome = true)) <|
  bif (!r1150) || ((D_plane_isOff N p1148 p1149).getD false) then (
    some (-1))
  else (
    (D_plane_side N l1147 p1148 p1149).bind fun r1152 =>
    some r1152)

def T17 (N : Nat) : List (Nat × Spec) := [(19, s19 N), (48, s48 N), (49, s49 N)]
theorem T17_ok (N : Nat) : TabOK Try.prog (tabOf (T17 N)) := tab_cons (fok19 N) (tab_cons (fok48 N) (tab_cons (fok49 N) (tab_nil)))

section
attribute [local go_sem] T17 s19 s48 s49 e_ii de_ii rb_ii d_ii rowAt_zero rowAt_succ List.set_cons_succ List.isEmpty_map List.map_append List.map_eq_nil_iff ne_eq List.length_replicate takeMap dropMap List.length_set Option.isSome_some
theorem D_plane_Inside_ok (N : Nat) (l1147 : List (Int × Int)) (p1148 : Int) (p1149 : Int) (r : Int) (h : D_plane_Inside N l1147 p1148 p1149 = some r) : PCall Try.prog 17 [.sl 2 false (l1147.map e_ii) [.i 0, .i 0], .agg [.i p1148, .i p1149]] (.i r) := by
  refine pcall_fn (T17_ok N) _ Try.func17 ok17 nt17 (by simp) fun _ => ?_
  have hS := T17_ok N
  have F := f0
  unfold ac17 rv17
  unfold D_plane_Inside at h
  try simp only [gd_some, Option.bind_eq_some_iff] at h
  obtain ⟨r1150, hr1150, hv1, h⟩ := h
  replace F := fc hr1150 F
  refine go hS F ?_
  refine cb F ((!r1150) || ((D_plane_isOff N p1148 p1149).getD false)) (fun hc2 => ?_) (fun hc2 => ?_)
  · replace h := cond_t hc2 h
    obtain rfl := Option.some.inj h
    refine go hS F ?_
    exact fin F
  · replace h := cond_f hc2 h
    try simp only [gd_some, Option.bind_eq_some_iff] at h
    obtain ⟨r1152, hr1152, h⟩ := h
    replace F := fc hr1152 F
    obtain rfl := Option.some.inj h
    refine go hS F ?_
    exact fin F
end

def s17 (N : Nat) : Spec
  | [.sl yl1147 _ l1147 _, .agg [.v (.int .i64 p1148), .v (.int .i64 p1149)]] => some (((yl1147 = 2 ∨ l1147 = []) ∧ l1147 = (l1147.map d_ii).map e_ii) ∧ (D_plane_Inside N (l1147.map d_ii) p1148 p1149).isSome = true, .i ((D_plane_Inside N (l1147.map d_ii) p1148 p1149).getD 0))
  | _ => none
theorem fok17 (N : Nat) : FOK Try.prog 17 (s17 N) := ⟨of17, by
  intro args vc r h hv
  unfold s17 at h
  split at h
  · cases h
    obtain ⟨⟨hy0, hr0⟩, hs⟩ := hv
    obtain ⟨r, hr⟩ := Option.isSome_iff_exists.1 hs
    have hk := D_plane_Inside_ok N _ _ _ r hr
    simp only [hr, Option.getD_some]
    refine PCall.arg ?_ hk
    simp only [wkL, wk, and_true, true_and, Bool.false_eq_true, false_implies, implies_true]
    repeat' (first | exact True.intro | assumption | apply And.intro)
  · simp at h⟩

/-! putlog/plane.first -/
def D_plane_first_L1 (N : Nat) (other1155 : List (Int × Int)) : List ((Int × Int) × (Int × Int)) → Int → Option (Sum Unit Int)
  | [], i1164 =>
    some (.inl ())
  | ((y1165, y1166), (y1167, y1168)) :: ys, i1164 =>
    (D_slices_ContainsFunc_api_Place_api_Place_v72 N other1155 y1165 y1166 y1167 y1168).bind fun r1169 =>
    bif !r1169 then (
      some (.inr i1164))
    else (
      gd (I64 (i1164 + 1)) <|
      D_plane_first_L1 N other1155 ys (i1164 + 1))

def D_plane_first (N : Nat) (l1154 : List (Int × Int)) (other1155 : List (Int × Int)) : Option Int :=
  gd (l1154.length ≤ 1000000000) <|
  (D_plane_first_L1 N other1155 (edgesL l1154) 0).bind fun o1175 => match o1175 with
    | .inl () => (
      some (-1))
    | .inr r1174 => (
      some r1174)

def T57 (N : Nat) : List (Nat × Spec) := [(46, sEdges), (50, s50_v72 N)]
theorem T57_ok (N : Nat) : TabOK Try.prog (tabOf (T57 N)) := tab_cons edges_fok (tab_cons (fok50_v72 N) (tab_nil))

section
attribute [local go_sem] T57 sEdges s50_v72 e_ii de_ii rb_ii d_ii rowAt_zero rowAt_succ List.set_cons_succ List.isEmpty_map List.map_append List.map_eq_nil_iff ne_eq List.length_replicate takeMap dropMap List.length_set Option.isSome_some
theorem D_plane_first_ok (N : Nat) (l1154 : List (Int × Int)) (other1155 : List (Int × Int)) (r : Int) (h : D_plane_first N l1154 other1155 = some r) : PCall Try.prog 57 [.sl 2 false (l1154.map e_ii) [.i 0, .i 0], .sl 2 false (other1155.map e_ii) [.i 0, .i 0]] (.i r) := by
  refine pcall_fn (T57_ok N) _ Try.func57 ok57 nt57 (by simp) fun _ => ?_
  have hS := T57_ok N
  have F := f0
  unfold ac57 rv57
  unfold D_plane_first at h
  try simp only [gd_some, Option.bind_eq_some_iff] at h
  obtain ⟨hv1, h⟩ := h
  try simp only [gd_some, Option.bind_eq_some_iff] at h
  obtain ⟨o1175, hL2, h⟩ := h
  refine go hS F ?_
  refine awp_cut (fun z : Nat => ⟨[(4, .box (1, 1) 0)], [(.c (1, 1) 0, .i 0)], z⟩) (fun z => (.inl () : Sum Unit Int) = o1175) .n ?_ ?_
  · refine awp_rfun (fun y : Nat × Int × Nat => ([(.c (100, 2) 0, .i y.2.1), (.c (1, 1) 0, .i 0), (.c (0, 1) 0, .sl 2 false (other1155.map e_ii) [.i 0, .i 0])], y.2.2)) (fun y => D_plane_first_L1 N other1155 ((edgesL l1154).drop y.1) y.2.1 = some o1175 ∧ y.1 ≤ (edgesL l1154).length) (fun y => y.1) (0, 0, 3) (by simp only [go_sem, seval, F] <;> eq_refl) (edges_it l1154 false (by assumption)) of64 ⟨rfl, rfl⟩ (by simp) (by intro a ha; obtain ⟨y, _, rfl⟩ := List.mem_map.1 ha; exact ⟨rfl, rfl⟩) ⟨hL2, Nat.zero_le _⟩ rfl ?_ ?_ ?_
    · exact leF F
    · rintro l ⟨n, i1164, c1163⟩ ⟨hB3, hle⟩ args ha4
      obtain ⟨⟨⟨y1165, y1166⟩, ⟨y1167, y1168⟩⟩, hy5, rfl, hlt⟩ := rd_step ha4
      rw [hy5, D_plane_first_L1] at hB3
      try simp only at hB3
      clear ha4 hy5
      simp only [edA, putps]
      try simp only [gd_some, Option.bind_eq_some_iff] at hB3
      obtain ⟨r1169, hr1169, hB3⟩ := hB3
      replace F := fc hr1169 F
      refine go hS F ?_
      refine cb F (!r1169) (fun hc6 => ?_) (fun hc6 => ?_)
      · replace hB3 := cond_t hc6 hB3
        obtain rfl := Option.some.inj hB3
        try simp only at h
        obtain rfl := Option.some.inj h
        refine go hS F ?_
        exact fin F
      · replace hB3 := cond_f hc6 hB3
        try simp only [gd_some, Option.bind_eq_some_iff] at hB3
        obtain ⟨hv7, hB3⟩ := hB3
        simp only [I64] at hv7
        refine go hS F ?_
        exact rngK_n (n + 1, i1164 + 1, c1163 + 1 + 1 + 1 + 1 + 1) ⟨hB3, by omega⟩ rfl (leF F)
    · rintro ⟨n, i1164, c1163⟩ ⟨hB3, hle⟩ hk
      rw [show n = _ from hk, drop_all, D_plane_first_L1] at hB3
      try simp only at hB3
      refine go hS F ?_
      exact cutK_h (c1163) (Option.some.inj hB3) (leF F)
  · rintro c1173 hz8
    subst hz8
    try simp only at h
    obtain rfl := Option.some.inj h
    refine go hS F ?_
    exact fin F
end

def s57 (N : Nat) : Spec
  | [.sl yl1154 _ l1154 _, .sl yother1155 _ other1155 _] => some (((yl1154 = 2 ∨ l1154 = []) ∧ l1154 = (l1154.map d_ii).map e_ii) ∧ ((yother1155 = 2 ∨ other1155 = []) ∧ other1155 = (other1155.map d_ii).map e_ii) ∧ (D_plane_first N (l1154.map d_ii) (other1155.map d_ii)).isSome = true, .i ((D_plane_first N (l1154.map d_ii) (other1155.map d_ii)).getD 0))
  | _ => none
theorem fok57 (N : Nat) : FOK Try.prog 57 (s57 N) := ⟨of57, by
  intro args vc r h hv
  unfold s57 at h
  split at h
  · cases h
    obtain ⟨⟨hy0, hr0⟩, ⟨hy1, hr1⟩, hs⟩ := hv
    obtain ⟨r, hr⟩ := Option.isSome_iff_exists.1 hs
    have hk := D_plane_first_ok N _ _ r hr
    simp only [hr, Option.getD_some]
    refine PCall.arg ?_ hk
    simp only [wkL, wk, and_true, true_and, Bool.false_eq_true, false_implies, implies_true]
    repeat' (first | exact True.intro | assumption | apply And.intro)
  · simp at h⟩

/-! putlog/plane.Side -/
def D_plane_Side (N : Nat) (a1176 : List (Int × Int)) (b1177 : List (Int × Int)) : Option (Int × Int × Bool) :=
  (D_plane_Valid N a1176).bind fun r1178 =>
  gd ((!(!r1178)) = true → ((D_plane_Valid N b1177).isSome = true)) <|
  bif (!r1178) || (!((D_plane_Valid N b1177).getD false)) then (
    some (0, 0, false))
  else (
    (D_plane_first N a1176 b1177).bind fun r1180 =>
    bif decide (0 ≤ r1180) then (
      some (0, r1180, true))
    else (
      (D_plane_first N b1177 a1176).bind fun r1182 =>
      bif decide (0 ≤ r1182) then (
        some (1, r1182, true))
      else (
        some (0, 0, false))))

def T26 (N : Nat) : List (Nat × Spec) := [(19, s19 N), (57, s57 N)]
theorem T26_ok (N : Nat) : TabOK Try.prog (tabOf (T26 N)) := tab_cons (fok19 N) (tab_cons (fok57 N) (tab_nil))

section
attribute [local go_sem] T26 s19 s57 e_ii de_ii rb_ii d_ii rowAt_zero rowAt_succ List.set_cons_succ List.isEmpty_map List.map_append List.map_eq_nil_iff ne_eq List.length_replicate takeMap dropMap List.length_set Option.isSome_some
theorem D_plane_Side_ok (N : Nat) (a1176 : List (Int × Int)) (b1177 : List (Int × Int)) (r : Int × Int × Bool) (h : D_plane_Side N a1176 b1177 = some r) : PCall Try.prog 26 [.sl 2 false (a1176.map e_ii) [.i 0, .i 0], .sl 2 false (b1177.map e_ii) [.i 0, .i 0]] (.tup [.i r.1, .i r.2.1, .b r.2.2]) := by
  refine pcall_fn (T26_ok N) _ Try.func26 ok26 nt26 (by simp) fun _ => ?_
  have hS := T26_ok N
  have F := f0
  unfold ac26 rv26
  unfold D_plane_Side at h
  try simp only [gd_some, Option.bind_eq_some_iff] at h
  obtain ⟨r1178, hr1178, hv1, h⟩ := h
  replace F := fc hr1178 F
  refine go hS F ?_
  refine cb F ((!r1178) || (!((D_plane_Valid N b1177).getD false))) (fun hc2 => ?_) (fun hc2 => ?_)
  · replace h := cond_t hc2 h
    obtain rfl := Option.some.inj h
    refine go hS F ?_
    exact fin F
  · replace h := cond_f hc2 h
    try simp only [gd_some, Option.bind_eq_some_iff] at h
    obtain ⟨r1180, hr1180, h⟩ := h
    replace F := fc hr1180 F
    refine go hS F ?_
    refine cb F (decide (0 ≤ r1180)) (fun hc3 => ?_) (fun hc3 => ?_)
    · replace h := cond_t hc3 h
      obtain rfl := Option.some.inj h
      refine go hS F ?_
      exact fin F
    · replace h := cond_f hc3 h
      try simp only [gd_some, Option.bind_eq_some_iff] at h
      obtain ⟨r1182, hr1182, h⟩ := h
      replace F := fc hr1182 F
      refine go hS F ?_
      refine cb F (decide (0 ≤ r1182)) (fun hc4 => ?_) (fun hc4 => ?_)
      · replace h := cond_t hc4 h
        obtain rfl := Option.some.inj h
        refine go hS F ?_
        exact fin F
      · replace h := cond_f hc4 h
        obtain rfl := Option.some.inj h
        refine go hS F ?_
        exact fin F
end

def s26 (N : Nat) : Spec
  | [.sl ya1176 _ a1176 _, .sl yb1177 _ b1177 _] => some (((ya1176 = 2 ∨ a1176 = []) ∧ a1176 = (a1176.map d_ii).map e_ii) ∧ ((yb1177 = 2 ∨ b1177 = []) ∧ b1177 = (b1177.map d_ii).map e_ii) ∧ (D_plane_Side N (a1176.map d_ii) (b1177.map d_ii)).isSome = true, .tup [.i (((D_plane_Side N (a1176.map d_ii) (b1177.map d_ii)).getD (0, 0, false)).1), .i (((D_plane_Side N (a1176.map d_ii) (b1177.map d_ii)).getD (0, 0, false)).2.1), .b (((D_plane_Side N (a1176.map d_ii) (b1177.map d_ii)).getD (0, 0, false)).2.2)])
  | _ => none
theorem fok26 (N : Nat) : FOK Try.prog 26 (s26 N) := ⟨of26, by
  intro args vc r h hv
  unfold s26 at h
  split at h
  · cases h
    obtain ⟨⟨hy0, hr0⟩, ⟨hy1, hr1⟩, hs⟩ := hv
    obtain ⟨r, hr⟩ := Option.isSome_iff_exists.1 hs
    have hk := D_plane_Side_ok N _ _ r hr
    simp only [hr, Option.getD_some]
    refine PCall.arg ?_ hk
    simp only [wkL, wk, and_true, true_and, Bool.false_eq_true, false_implies, implies_true]
    repeat' (first | exact True.intro | assumption | apply And.intro)
  · simp at h⟩

/-! putlog/plane.Overlap -/
def D_plane_Overlap (N : Nat) (a1184 : List (Int × Int)) (b1185 : List (Int × Int)) : Option Bool :=
  (D_plane_Side N a1184 b1185).bind fun (r1186, r1187, r1188) =>
  (D_plane_Valid N a1184).bind fun r1190 =>
  gd (r1190 = true → ((D_plane_Valid N b1185).isSome = true)) <|
  some ((r1190 && ((D_plane_Valid N b1185).getD false)) && (!r1188))

def T24 (N : Nat) : List (Nat × Spec) := [(26, s26 N), (19, s19 N)]
theorem T24_ok (N : Nat) : TabOK Try.prog (tabOf (T24 N)) := tab_cons (fok26 N) (tab_cons (fok19 N) (tab_nil))

section
attribute [local go_sem] T24 s26 s19 e_ii de_ii rb_ii d_ii rowAt_zero rowAt_succ List.set_cons_succ List.isEmpty_map List.map_append List.map_eq_nil_iff ne_eq List.length_replicate takeMap dropMap List.length_set Option.isSome_some
theorem D_plane_Overlap_ok (N : Nat) (a1184 : List (Int × Int)) (b1185 : List (Int × Int)) (r : Bool) (h : D_plane_Overlap N a1184 b1185 = some r) : PCall Try.prog 24 [.sl 2 false (a1184.map e_ii) [.i 0, .i 0], .sl 2 false (b1185.map e_ii) [.i 0, .i 0]] (.b r) := by
  refine pcall_fn (T24_ok N) _ Try.func24 ok24 nt24 (by simp) fun _ => ?_
  have hS := T24_ok N
  have F := f0
  unfold ac24 rv24
  unfold D_plane_Overlap at h
  try simp only [gd_some, Option.bind_eq_some_iff] at h
  obtain ⟨⟨r1186, r1187, r1188⟩, hr1188, h⟩ := h
  replace F := fc hr1188 F
  try simp only [gd_some, Option.bind_eq_some_iff] at h
  obtain ⟨r1190, hr1190, hv1, h⟩ := h
  replace F := fc hr1190 F
  obtain rfl := Option.some.inj h
  refine go hS F ?_
  exact fin F
end

def s24 (N : Nat) : Spec
  | [.sl ya1184 _ a1184 _, .sl yb1185 _ b1185 _] => some (((ya1184 = 2 ∨ a1184 = []) ∧ a1184 = (a1184.map d_ii).map e_ii) ∧ ((yb1185 = 2 ∨ b1185 = []) ∧ b1185 = (b1185.map d_ii).map e_ii) ∧ (D_plane_Overlap N (a1184.map d_ii) (b1185.map d_ii)).isSome = true, .b ((D_plane_Overlap N (a1184.map d_ii) (b1185.map d_ii)).getD false))
  | _ => none
theorem fok24 (N : Nat) : FOK Try.prog 24 (s24 N) := ⟨of24, by
  intro args vc r h hv
  unfold s24 at h
  split at h
  · cases h
    obtain ⟨⟨hy0, hr0⟩, ⟨hy1, hr1⟩, hs⟩ := hv
    obtain ⟨r, hr⟩ := Option.isSome_iff_exists.1 hs
    have hk := D_plane_Overlap_ok N _ _ r hr
    simp only [hr, Option.getD_some]
    refine PCall.arg ?_ hk
    simp only [wkL, wk, and_true, true_and, Bool.false_eq_true, false_implies, implies_true]
    repeat' (first | exact True.intro | assumption | apply And.intro)
  · simp at h⟩

/-! putlog/plane.Cell -/
def D_plane_Cell_L1 (N : Nat) (l1192 : List (Int × Int)) : Nat → Int → (List (Int × Int)) → Option ((List (Int × Int)))
  | 0, _, _ => none
  | n + 1, x1205, l1206 =>
    bif decide (x1205 < (l1192.length : Int)) then (
      (nth l1206 x1205).bind fun (x1207, x1208) =>
      gd (I64 (x1207 * 2)) <|
      (nth (l1206.set x1205.toNat (x1207 * 2, x1208)) x1205).bind fun (x1210, x1211) =>
      gd (I64 (x1211 * 2)) <|
      gd (I64 (x1205 + 1)) <|
      D_plane_Cell_L1 N l1192 n (x1205 + 1) ((l1206.set x1205.toNat (x1207 * 2, x1208)).set x1205.toNat (x1210, x1211 * 2)))
    else (
      some l1206)

def D_plane_Cell (N : Nat) (l1192 : List (Int × Int)) (x1193 : Int) (y1194 : Int) : Option Int :=
  (D_plane_Valid N l1192).bind fun r1195 =>
  bif ((!r1195) || (decide (min x1193 y1194 < 0))) || (decide (40 ≤ max x1193 y1194)) then (
    some (-1))
  else (
    gd (l1192 ≠ []) <|
    gd ((l1192.length) * 16 ≤ 140737488355328) <|
    (D_plane_Cell_L1 N l1192 N 0 l1192).bind fun l1217 =>
    gd (I64 (2 * x1193)) <|
    gd (I64 ((2 * x1193) + 1)) <|
    gd (I64 (2 * y1194)) <|
    gd (I64 ((2 * y1194) + 1)) <|
    (D_plane_side N l1217 ((2 * x1193) + 1) ((2 * y1194) + 1)).bind fun r1219 =>
    some r1219)

def T27 (N : Nat) : List (Nat × Spec) := [(19, s19 N), (49, s49 N)]
theorem T27_ok (N : Nat) : TabOK Try.prog (tabOf (T27 N)) := tab_cons (fok19 N) (tab_cons (fok49 N) (tab_nil))

section
attribute [local go_sem] T27 s19 s49 e_ii de_ii rb_ii d_ii rowAt_zero rowAt_succ List.set_cons_succ List.isEmpty_map List.map_append List.map_eq_nil_iff ne_eq List.length_replicate takeMap dropMap List.length_set Option.isSome_some
theorem D_plane_Cell_ok (N : Nat) (l1192 : List (Int × Int)) (x1193 : Int) (y1194 : Int) (r : Int) (h : D_plane_Cell N l1192 x1193 y1194 = some r) : PCall Try.prog 27 [.sl 2 false (l1192.map e_ii) [.i 0, .i 0], .i x1193, .i y1194] (.i r) := by
  refine pcall_fn (T27_ok N) _ Try.func27 ok27 nt27 (by simp) fun _ => ?_
  have hS := T27_ok N
  have F := f0
  unfold ac27 rv27
  unfold D_plane_Cell at h
  try simp only [gd_some, Option.bind_eq_some_iff] at h
  obtain ⟨r1195, hr1195, h⟩ := h
  replace F := fc hr1195 F
  refine go hS F ?_
  refine cb F (((!r1195) || (decide (min x1193 y1194 < 0))) || (decide (40 ≤ max x1193 y1194))) (fun hc1 => ?_) (fun hc1 => ?_)
  · replace h := cond_t hc1 h
    obtain rfl := Option.some.inj h
    refine go hS F ?_
    exact fin F
  · replace h := cond_f hc1 h
    refine go hS F ?_
    refine awp_inlF hS 1 Try.func53 ok53 nt53 of53 rfl (by simp only [go_sem, seval, F] <;> eq_refl) (by simp only [go_sem, seval, F] <;> eq_refl) ?_ rfl (by simp only [go_sem, seval, F] <;> eq_refl) (by simp) fun hb => ?_
    · exact goc hS F
    unfold ac53 rv53
    try simp only [gd_some, Option.bind_eq_some_iff] at h
    obtain ⟨hv2, h⟩ := h
    refine go hS F ?_
    refine cf F ?_
    try simp only [gd_some, Option.bind_eq_some_iff] at h
    obtain ⟨hv3, h⟩ := h
    try simp only [gd_some, Option.bind_eq_some_iff] at h
    obtain ⟨o1218, hL4, h⟩ := h
    refine go hS F ?_
    refine awp_cut (fun z : (List (Int × Int)) × Nat => ⟨[(1, .i x1193), (2, .i y1194), (7, .own (300, 6) z.1.length)], [(.a (300, 6), .sl 2 true (z.1.map e_ii) [.i 0, .i 0])], z.2⟩) (fun z => (z.1 : (List (Int × Int))) = o1218) (.x 0) ?_ ?_
    · refine awp_loop (fun y : Nat × Int × (List (Int × Int)) × Nat => ⟨[(1, .i x1193), (2, .i y1194), (7, .own (300, 6) y.2.2.1.length), (27, .i (l1192.length : Int)), (28, .i y.2.1)], [(.a (300, 6), .sl 2 true (y.2.2.1.map e_ii) [.i 0, .i 0])], y.2.2.2⟩) (fun y => D_plane_Cell_L1 N l1192 y.1 y.2.1 y.2.2.1 = some o1218) (fun y => y.1) (N, 0, l1192, 8) hL4 ?_ ?_
      · exact leF F
      · rintro ⟨n, x1205, l1206, c1204⟩ hB5
        try simp only at hB5
        obtain _ | n := n
        · exact absurd hB5 (by simp [D_plane_Cell_L1])
        rw [D_plane_Cell_L1] at hB5
        refine go hS F ?_
        refine cb F (decide (x1205 < (l1192.length : Int))) (fun hc6 => ?_) (fun hc6 => ?_)
        · replace hB5 := cond_t hc6 hB5
          try simp only [gd_some, Option.bind_eq_some_iff] at hB5
          obtain ⟨⟨x1207, x1208⟩, hn1208, hB5⟩ := hB5
          have hx1208 : l1206.getD x1205.toNat (0, 0) = (x1207, x1208) := ixs hn1208 _
          have hb1208 := (nth_some hn1208).1
          replace F := fc hx1208 F
          try simp only [gd_some, Option.bind_eq_some_iff] at hB5
          obtain ⟨hv7, ⟨x1210, x1211⟩, hn1211, hB5⟩ := hB5
          simp only [I64] at hv7
          have hx1211 : (l1206.set x1205.toNat (x1207 * 2, x1208)).getD x1205.toNat (0, 0) = (x1210, x1211) := ixs hn1211 _
          have hq1211 := rb_ii (l1206.set x1205.toNat (x1207 * 2, x1208)) x1205.toNat
          rw [hx1211] at hq1211
          simp only [List.map_set, e_ii] at hq1211
          have hb1211 := (nth_some hn1211).1
          replace F := fc hq1211 (fc hx1211 F)
          try simp only [gd_some, Option.bind_eq_some_iff] at hB5
          obtain ⟨hv8, hv9, hB5⟩ := hB5
          simp only [I64] at hv8
          simp only [I64] at hv9
          refine go hS F ?_
          exact backK_n (n, x1205 + 1, (l1206.set x1205.toNat (x1207 * 2, x1208)).set x1205.toNat (x1210, x1211 * 2), c1204 + 1 + 1 + 1 + 1 + 1) hB5 (Nat.lt_succ_self _) (leF F)
        · replace hB5 := cond_f hc6 hB5
          refine go hS F ?_
          exact cutK_h (l1206, c1204 + 1) (Option.some.inj hB5) (leF F)
    · rintro ⟨l1217, c1216⟩ hz10
      subst hz10
      try simp only at h
      try simp only [gd_some, Option.bind_eq_some_iff] at h
      obtain ⟨hv11, hv12, hv13, hv14, r1219, hr1219, h⟩ := h
      simp only [I64] at hv11
      simp only [I64] at hv12
      simp only [I64] at hv13
      simp only [I64] at hv14
      replace F := fc hr1219 F
      obtain rfl := Option.some.inj h
      refine go hS F ?_
      exact fin F
end

def s27 (N : Nat) : Spec
  | [.sl yl1192 _ l1192 _, .v (.int .i64 x1193), .v (.int .i64 y1194)] => some (((yl1192 = 2 ∨ l1192 = []) ∧ l1192 = (l1192.map d_ii).map e_ii) ∧ (D_plane_Cell N (l1192.map d_ii) x1193 y1194).isSome = true, .i ((D_plane_Cell N (l1192.map d_ii) x1193 y1194).getD 0))
  | _ => none
theorem fok27 (N : Nat) : FOK Try.prog 27 (s27 N) := ⟨of27, by
  intro args vc r h hv
  unfold s27 at h
  split at h
  · cases h
    obtain ⟨⟨hy0, hr0⟩, hs⟩ := hv
    obtain ⟨r, hr⟩ := Option.isSome_iff_exists.1 hs
    have hk := D_plane_Cell_ok N _ _ _ r hr
    simp only [hr, Option.getD_some]
    refine PCall.arg ?_ hk
    simp only [wkL, wk, and_true, true_and, Bool.false_eq_true, false_implies, implies_true]
    repeat' (first | exact True.intro | assumption | apply And.intro)
  · simp at h⟩

/-! putlog/plane.Move -/
def D_plane_Move_L1 (N : Nat) (l1221 : List (Int × Int)) (dx1222 : Int) (dy1223 : Int) : Nat → Int → (List (Int × Int)) → Option ((List (Int × Int)))
  | 0, _, _ => none
  | n + 1, x1234, l1235 =>
    bif decide (x1234 < (l1221.length : Int)) then (
      (nth l1235 x1234).bind fun (x1236, x1237) =>
      gd (I64 (x1236 + dx1222)) <|
      (nth (l1235.set x1234.toNat (x1236 + dx1222, x1237)) x1234).bind fun (x1239, x1240) =>
      gd (I64 (x1240 + dy1223)) <|
      gd (I64 (x1234 + 1)) <|
      D_plane_Move_L1 N l1221 dx1222 dy1223 n (x1234 + 1) ((l1235.set x1234.toNat (x1236 + dx1222, x1237)).set x1234.toNat (x1239, x1240 + dy1223)))
    else (
      some l1235)

def D_plane_Move (N : Nat) (l1221 : List (Int × Int)) (dx1222 : Int) (dy1223 : Int) : Option ((List (Int × Int)) × Int) :=
  (D_plane_Valid N l1221).bind fun r1224 =>
  bif ((!r1224) || (decide (40 < max dx1222 dy1223))) || (decide (min dx1222 dy1223 < (-40))) then (
    some ([], 70))
  else (
    gd (l1221 ≠ []) <|
    gd ((l1221.length) * 16 ≤ 140737488355328) <|
    (D_plane_Move_L1 N l1221 dx1222 dy1223 N 0 l1221).bind fun l1246 =>
    (D_slices_ContainsFunc_api_Place_api_Place_v48 N l1246).bind fun r1248 =>
    bif r1248 then (
      some ([], 70))
    else (
      some (l1246, 0)))

def T30 (N : Nat) : List (Nat × Spec) := [(19, s19 N), (50, s50_v48 N)]
theorem T30_ok (N : Nat) : TabOK Try.prog (tabOf (T30 N)) := tab_cons (fok19 N) (tab_cons (fok50_v48 N) (tab_nil))

section
attribute [local go_sem] T30 s19 s50_v48 e_ii de_ii rb_ii d_ii rowAt_zero rowAt_succ List.set_cons_succ List.isEmpty_map List.map_append List.map_eq_nil_iff ne_eq List.length_replicate takeMap dropMap List.length_set Option.isSome_some
theorem D_plane_Move_ok (N : Nat) (l1221 : List (Int × Int)) (dx1222 : Int) (dy1223 : Int) (r : (List (Int × Int)) × Int) (h : D_plane_Move N l1221 dx1222 dy1223 = some r) : PCall Try.prog 30 [.sl 2 false (l1221.map e_ii) [.i 0, .i 0], .i dx1222, .i dy1223] (.tup [.sl 2 false (r.1.map e_ii) [.i 0, .i 0], .i r.2]) := by
  refine pcall_fn (T30_ok N) _ Try.func30 ok30 nt30 (by simp) fun _ => ?_
  have hS := T30_ok N
  have F := f0
  unfold ac30 rv30
  unfold D_plane_Move at h
  try simp only [gd_some, Option.bind_eq_some_iff] at h
  obtain ⟨r1224, hr1224, h⟩ := h
  replace F := fc hr1224 F
  refine go hS F ?_
  refine cb F (((!r1224) || (decide (40 < max dx1222 dy1223))) || (decide (min dx1222 dy1223 < (-40)))) (fun hc1 => ?_) (fun hc1 => ?_)
  · replace h := cond_t hc1 h
    obtain rfl := Option.some.inj h
    refine go hS F ?_
    exact fin F
  · replace h := cond_f hc1 h
    refine go hS F ?_
    refine awp_inlF hS 1 Try.func53 ok53 nt53 of53 rfl (by simp only [go_sem, seval, F] <;> eq_refl) (by simp only [go_sem, seval, F] <;> eq_refl) ?_ rfl (by simp only [go_sem, seval, F] <;> eq_refl) (by simp) fun hb => ?_
    · exact goc hS F
    unfold ac53 rv53
    try simp only [gd_some, Option.bind_eq_some_iff] at h
    obtain ⟨hv2, h⟩ := h
    refine go hS F ?_
    refine cf F ?_
    try simp only [gd_some, Option.bind_eq_some_iff] at h
    obtain ⟨hv3, h⟩ := h
    try simp only [gd_some, Option.bind_eq_some_iff] at h
    obtain ⟨o1247, hL4, h⟩ := h
    refine go hS F ?_
    refine awp_cut (fun z : (List (Int × Int)) × Nat => ⟨[(8, .own (300, 6) z.1.length)], [(.a (300, 6), .sl 2 true (z.1.map e_ii) [.i 0, .i 0])], z.2⟩) (fun z => (z.1 : (List (Int × Int))) = o1247) (.x 0) ?_ ?_
    · refine awp_loop (fun y : Nat × Int × (List (Int × Int)) × Nat => ⟨[(1, .i dx1222), (2, .i dy1223), (8, .own (300, 6) y.2.2.1.length), (28, .i (l1221.length : Int)), (29, .i y.2.1)], [(.a (300, 6), .sl 2 true (y.2.2.1.map e_ii) [.i 0, .i 0])], y.2.2.2⟩) (fun y => D_plane_Move_L1 N l1221 dx1222 dy1223 y.1 y.2.1 y.2.2.1 = some o1247) (fun y => y.1) (N, 0, l1221, 8) hL4 ?_ ?_
      · exact leF F
      · rintro ⟨n, x1234, l1235, c1233⟩ hB5
        try simp only at hB5
        obtain _ | n := n
        · exact absurd hB5 (by simp [D_plane_Move_L1])
        rw [D_plane_Move_L1] at hB5
        refine go hS F ?_
        refine cb F (decide (x1234 < (l1221.length : Int))) (fun hc6 => ?_) (fun hc6 => ?_)
        · replace hB5 := cond_t hc6 hB5
          try simp only [gd_some, Option.bind_eq_some_iff] at hB5
          obtain ⟨⟨x1236, x1237⟩, hn1237, hB5⟩ := hB5
          have hx1237 : l1235.getD x1234.toNat (0, 0) = (x1236, x1237) := ixs hn1237 _
          have hb1237 := (nth_some hn1237).1
          replace F := fc hx1237 F
          try simp only [gd_some, Option.bind_eq_some_iff] at hB5
          obtain ⟨hv7, ⟨x1239, x1240⟩, hn1240, hB5⟩ := hB5
          simp only [I64] at hv7
          have hx1240 : (l1235.set x1234.toNat (x1236 + dx1222, x1237)).getD x1234.toNat (0, 0) = (x1239, x1240) := ixs hn1240 _
          have hq1240 := rb_ii (l1235.set x1234.toNat (x1236 + dx1222, x1237)) x1234.toNat
          rw [hx1240] at hq1240
          simp only [List.map_set, e_ii] at hq1240
          have hb1240 := (nth_some hn1240).1
          replace F := fc hq1240 (fc hx1240 F)
          try simp only [gd_some, Option.bind_eq_some_iff] at hB5
          obtain ⟨hv8, hv9, hB5⟩ := hB5
          simp only [I64] at hv8
          simp only [I64] at hv9
          refine go hS F ?_
          exact backK_n (n, x1234 + 1, (l1235.set x1234.toNat (x1236 + dx1222, x1237)).set x1234.toNat (x1239, x1240 + dy1223), c1233 + 1 + 1 + 1 + 1 + 1) hB5 (Nat.lt_succ_self _) (leF F)
        · replace hB5 := cond_f hc6 hB5
          refine go hS F ?_
          exact cutK_h (l1235, c1233 + 1) (Option.some.inj hB5) (leF F)
    · rintro ⟨l1246, c1245⟩ hz10
      subst hz10
      try simp only at h
      try simp only [gd_some, Option.bind_eq_some_iff] at h
      obtain ⟨r1248, hr1248, h⟩ := h
      replace F := fc hr1248 F
      refine go hS F ?_
      refine cb F (r1248) (fun hc11 => ?_) (fun hc11 => ?_)
      · replace h := cond_t hc11 h
        obtain rfl := Option.some.inj h
        refine go hS F ?_
        exact fin F
      · replace h := cond_f hc11 h
        obtain rfl := Option.some.inj h
        refine go hS F ?_
        exact fin F
end

def s30 (N : Nat) : Spec
  | [.sl yl1221 _ l1221 _, .v (.int .i64 dx1222), .v (.int .i64 dy1223)] => some (((yl1221 = 2 ∨ l1221 = []) ∧ l1221 = (l1221.map d_ii).map e_ii) ∧ (D_plane_Move N (l1221.map d_ii) dx1222 dy1223).isSome = true, .tup [.sl 2 false ((((D_plane_Move N (l1221.map d_ii) dx1222 dy1223).getD ([], 0)).1).map e_ii) [.i 0, .i 0], .i (((D_plane_Move N (l1221.map d_ii) dx1222 dy1223).getD ([], 0)).2)])
  | _ => none
theorem fok30 (N : Nat) : FOK Try.prog 30 (s30 N) := ⟨of30, by
  intro args vc r h hv
  unfold s30 at h
  split at h
  · cases h
    obtain ⟨⟨hy0, hr0⟩, hs⟩ := hv
    obtain ⟨r, hr⟩ := Option.isSome_iff_exists.1 hs
    have hk := D_plane_Move_ok N _ _ _ r hr
    simp only [hr, Option.getD_some]
    refine PCall.arg ?_ hk
    simp only [wkL, wk, and_true, true_and, Bool.false_eq_true, false_implies, implies_true]
    repeat' (first | exact True.intro | assumption | apply And.intro)
  · simp at h⟩
end Go.Proofs.Ytojciffnkbfbhaa.Am
