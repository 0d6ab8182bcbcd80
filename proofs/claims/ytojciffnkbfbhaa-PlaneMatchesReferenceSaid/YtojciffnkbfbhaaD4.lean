import Derived.Test.YtojciffnkbfbhaaD1
namespace Go.Proofs.Ytojciffnkbfbhaa.Am
open Go
attribute [local irreducible] awp seqK blkK backK endK inlK restK rngK asgK itK
set_option maxRecDepth 100000
set_option maxHeartbeats 8000000
set_option linter.unusedSimpArgs false
set_option linter.unusedVariables false
def e_i (x : Int) : List AV := [.i x]
def d_i : List AV → Int
  | [.v (.int _ a1)] => a1
  | _ => 0
theorem d1_i (x : Int) : d_i (e_i x) = x := by rfl
theorem de_i (R : List Int) : (R.map e_i).map d_i = R := by
  induction R with
  | nil => rfl
  | cons r R ih => rw [List.map_cons, List.map_cons, ih, d1_i]

theorem rb_i (R : List Int) (i : Nat) : rowAt (R.map e_i) [.i 0] i = e_i (R.getD i 0) := by
  unfold rowAt; rw [List.getD_eq_getElem?_getD, List.getD_eq_getElem?_getD, List.getElem?_map]; cases R[i]? <;> rfl
/-! putlog/plane.turn -/
def D_plane_turn (N : Nat) (a886 : Int) (a887 : Int) (b888 : Int) (b889 : Int) (c890 : Int) (c891 : Int) : Option Int :=
  gd (I64 (b888 - a886)) <|
  gd (I64 (c891 - a887)) <|
  gd (I64 ((b888 - a886) * (c891 - a887))) <|
  gd (I64 (b889 - a887)) <|
  gd (I64 (c890 - a886)) <|
  gd (I64 ((b889 - a887) * (c890 - a886))) <|
  gd (I64 (((b888 - a886) * (c891 - a887)) - ((b889 - a887) * (c890 - a886)))) <|
  some (((b888 - a886) * (c891 - a887)) - ((b889 - a887) * (c890 - a886)))

def T51 (N : Nat) : List (Nat × Spec) := []
theorem T51_ok (N : Nat) : TabOK Try.prog (tabOf (T51 N)) := tab_nil

section
attribute [local go_sem] T51 rowAt_zero rowAt_succ List.set_cons_succ List.isEmpty_map List.map_append List.map_eq_nil_iff ne_eq List.length_replicate takeMap dropMap List.length_set Option.isSome_some
theorem D_plane_turn_ok (N : Nat) (a886 : Int) (a887 : Int) (b888 : Int) (b889 : Int) (c890 : Int) (c891 : Int) (r : Int) (h : D_plane_turn N a886 a887 b888 b889 c890 c891 = some r) : PCall Try.prog 51 [.agg [.i a886, .i a887], .agg [.i b888, .i b889], .agg [.i c890, .i c891]] (.i r) := by
  refine pcall_fn (T51_ok N) _ Try.func51 ok51 nt51 (by simp) fun _ => ?_
  have hS := T51_ok N
  have F := f0
  unfold ac51 rv51
  unfold D_plane_turn at h
  try simp only [gd_some, Option.bind_eq_some_iff] at h
  obtain ⟨hv1, hv2, hv3, hv4, hv5, hv6, hv7, h⟩ := h
  simp only [I64] at hv1
  simp only [I64] at hv2
  simp only [I64] at hv3
  simp only [I64] at hv4
  simp only [I64] at hv5
  simp only [I64] at hv6
  simp only [I64] at hv7
  obtain rfl := Option.some.inj h
  refine go hS F ?_
  exact fin F
end

def s51 (N : Nat) : Spec
  | [.agg [.v (.int .i64 a886), .v (.int .i64 a887)], .agg [.v (.int .i64 b888), .v (.int .i64 b889)], .agg [.v (.int .i64 c890), .v (.int .i64 c891)]] => some ((D_plane_turn N a886 a887 b888 b889 c890 c891).isSome = true, .i ((D_plane_turn N a886 a887 b888 b889 c890 c891).getD 0))
  | _ => none
theorem fok51 (N : Nat) : FOK Try.prog 51 (s51 N) := ⟨of51, by
  intro args vc r h hv
  unfold s51 at h
  split at h
  · cases h
    have hs := hv
    obtain ⟨r, hr⟩ := Option.isSome_iff_exists.1 hs
    have hk := D_plane_turn_ok N _ _ _ _ _ _ r hr
    simp only [hr, Option.getD_some]
    refine PCall.arg ?_ hk
    simp only [wkL, wk, and_true, true_and, Bool.false_eq_true, false_implies, implies_true]
    try trivial
  · simp at h⟩

/-! putlog/plane.isOff -/
def D_plane_isOff (N : Nat) (p892 : Int) (p893 : Int) : Option Bool :=
  some ((decide (min p892 p893 < 0)) || (decide (40 < max p892 p893)))

def T48 (N : Nat) : List (Nat × Spec) := []
theorem T48_ok (N : Nat) : TabOK Try.prog (tabOf (T48 N)) := tab_nil

section
attribute [local go_sem] T48 rowAt_zero rowAt_succ List.set_cons_succ List.isEmpty_map List.map_append List.map_eq_nil_iff ne_eq List.length_replicate takeMap dropMap List.length_set Option.isSome_some
theorem D_plane_isOff_ok (N : Nat) (p892 : Int) (p893 : Int) (r : Bool) (h : D_plane_isOff N p892 p893 = some r) : PCall Try.prog 48 [.agg [.i p892, .i p893]] (.b r) := by
  refine pcall_fn (T48_ok N) _ Try.func48 ok48 nt48 (by simp) fun _ => ?_
  have hS := T48_ok N
  have F := f0
  unfold ac48 rv48
  unfold D_plane_isOff at h
  obtain rfl := Option.some.inj h
  refine go hS F ?_
  exact fin F
end

def s48 (N : Nat) : Spec
  | [.agg [.v (.int .i64 p892), .v (.int .i64 p893)]] => some ((D_plane_isOff N p892 p893).isSome = true, .b ((D_plane_isOff N p892 p893).getD false))
  | _ => none
theorem fok48 (N : Nat) : FOK Try.prog 48 (s48 N) := ⟨of48, by
  intro args vc r h hv
  unfold s48 at h
  split at h
  · cases h
    have hs := hv
    obtain ⟨r, hr⟩ := Option.isSome_iff_exists.1 hs
    have hk := D_plane_isOff_ok N _ _ r hr
    simp only [hr, Option.getD_some]
    refine PCall.arg ?_ hk
    simp only [wkL, wk, and_true, true_and, Bool.false_eq_true, false_implies, implies_true]
    try trivial
  · simp at h⟩

/-! cmp.isNaN int  -/
def D_cmp_isNaN_int (N : Nat) (x894 : Int) : Option Bool :=
  some (decide (x894 ≠ x894))

def T73 (N : Nat) : List (Nat × Spec) := []
theorem T73_ok (N : Nat) : TabOK Try.prog (tabOf (T73 N)) := tab_nil

section
attribute [local go_sem] T73 rowAt_zero rowAt_succ List.set_cons_succ List.isEmpty_map List.map_append List.map_eq_nil_iff ne_eq List.length_replicate takeMap dropMap List.length_set Option.isSome_some
theorem D_cmp_isNaN_int_ok (N : Nat) (x894 : Int) (r : Bool) (h : D_cmp_isNaN_int N x894 = some r) : PCall Try.prog 73 [.i x894] (.b r) := by
  refine pcall_fn (T73_ok N) _ Try.func73 ok73 nt73 (by simp) fun _ => ?_
  have hS := T73_ok N
  have F := f0
  unfold ac73 rv73
  unfold D_cmp_isNaN_int at h
  obtain rfl := Option.some.inj h
  refine go hS F ?_
  exact fin F
end

def s73 (N : Nat) : Spec
  | [.v (.int .i64 x894)] => some ((D_cmp_isNaN_int N x894).isSome = true, .b ((D_cmp_isNaN_int N x894).getD false))
  | _ => none
theorem fok73 (N : Nat) : FOK Try.prog 73 (s73 N) := ⟨of73, by
  intro args vc r h hv
  unfold s73 at h
  split at h
  · cases h
    have hs := hv
    obtain ⟨r, hr⟩ := Option.isSome_iff_exists.1 hs
    have hk := D_cmp_isNaN_int_ok N _ r hr
    simp only [hr, Option.getD_some]
    refine PCall.arg ?_ hk
    simp only [wkL, wk, and_true, true_and, Bool.false_eq_true, false_implies, implies_true]
    try trivial
  · simp at h⟩

/-! cmp.Compare int  -/
def D_cmp_Compare_int (N : Nat) (x895 : Int) (y896 : Int) : Option Int :=
  (D_cmp_isNaN_int N x895).bind fun r897 =>
  (D_cmp_isNaN_int N y896).bind fun r899 =>
  bif r897 then (
    bif r899 then (
      some 0)
    else (
      some (-1)))
  else (
    bif r899 then (
      some 1)
    else (
      bif decide (x895 < y896) then (
        some (-1))
      else (
        bif decide (y896 < x895) then (
          some 1)
        else (
          some 0))))

def T65 (N : Nat) : List (Nat × Spec) := [(73, s73 N)]
theorem T65_ok (N : Nat) : TabOK Try.prog (tabOf (T65 N)) := tab_cons (fok73 N) (tab_nil)

section
attribute [local go_sem] T65 s73 rowAt_zero rowAt_succ List.set_cons_succ List.isEmpty_map List.map_append List.map_eq_nil_iff ne_eq List.length_replicate takeMap dropMap List.length_set Option.isSome_some
theorem D_cmp_Compare_int_ok (N : Nat) (x895 : Int) (y896 : Int) (r : Int) (h : D_cmp_Compare_int N x895 y896 = some r) : PCall Try.prog 65 [.i x895, .i y896] (.i r) := by
  refine pcall_fn (T65_ok N) _ Try.func65 ok65 nt65 (by simp) fun _ => ?_
  have hS := T65_ok N
  have F := f0
  unfold ac65 rv65
  unfold D_cmp_Compare_int at h
  try simp only [gd_some, Option.bind_eq_some_iff] at h
  obtain ⟨r897, hr897, r899, hr899, h⟩ := h
  replace F := fc hr899 (fc hr897 F)
  refine go hS F ?_
  refine cb F (r897) (fun hc1 => ?_) (fun hc1 => ?_)
  · replace h := cond_t hc1 h
    refine go hS F ?_
    refine cb F (r899) (fun hc2 => ?_) (fun hc2 => ?_)
    · replace h := cond_t hc2 h
      obtain rfl := Option.some.inj h
      refine go hS F ?_
      exact fin F
    · replace h := cond_f hc2 h
      obtain rfl := Option.some.inj h
      refine go hS F ?_
      exact fin F
  · replace h := cond_f hc1 h
    refine go hS F ?_
    refine cb F (r899) (fun hc3 => ?_) (fun hc3 => ?_)
    · replace h := cond_t hc3 h
      obtain rfl := Option.some.inj h
      refine go hS F ?_
      exact fin F
    · replace h := cond_f hc3 h
      refine go hS F ?_
      refine cb F (decide (x895 < y896)) (fun hc4 => ?_) (fun hc4 => ?_)
      · replace h := cond_t hc4 h
        obtain rfl := Option.some.inj h
        refine go hS F ?_
        exact fin F
      · replace h := cond_f hc4 h
        refine go hS F ?_
        refine cb F (decide (y896 < x895)) (fun hc5 => ?_) (fun hc5 => ?_)
        · replace h := cond_t hc5 h
          obtain rfl := Option.some.inj h
          refine go hS F ?_
          exact fin F
        · replace h := cond_f hc5 h
          obtain rfl := Option.some.inj h
          refine go hS F ?_
          exact fin F
end

def s65 (N : Nat) : Spec
  | [.v (.int .i64 x895), .v (.int .i64 y896)] => some ((D_cmp_Compare_int N x895 y896).isSome = true, .i ((D_cmp_Compare_int N x895 y896).getD 0))
  | _ => none
theorem fok65 (N : Nat) : FOK Try.prog 65 (s65 N) := ⟨of65, by
  intro args vc r h hv
  unfold s65 at h
  split at h
  · cases h
    have hs := hv
    obtain ⟨r, hr⟩ := Option.isSome_iff_exists.1 hs
    have hk := D_cmp_Compare_int_ok N _ _ r hr
    simp only [hr, Option.getD_some]
    refine PCall.arg ?_ hk
    simp only [wkL, wk, and_true, true_and, Bool.false_eq_true, false_implies, implies_true]
    try trivial
  · simp at h⟩

/-! cmp.Or int  -/
def D_cmp_Or_int_L1 (N : Nat) (vals901 : List Int) : Nat → Int → Option (Sum Unit Int)
  | 0, _ => none
  | n + 1, x906 =>
    bif decide (x906 < (vals901.length : Int)) then (
      (nth vals901 x906).bind fun x907 =>
      bif decide (x907 ≠ 0) then (
        some (.inr x907))
      else (
        gd (I64 (x906 + 1)) <|
        D_cmp_Or_int_L1 N vals901 n (x906 + 1)))
    else (
      some (.inl ()))

def D_cmp_Or_int (N : Nat) (vals901 : List Int) : Option Int :=
  (D_cmp_Or_int_L1 N vals901 N 0).bind fun o913 => match o913 with
    | .inl () => (
      some 0)
    | .inr r912 => (
      some r912)

def T71 (N : Nat) : List (Nat × Spec) := []
theorem T71_ok (N : Nat) : TabOK Try.prog (tabOf (T71 N)) := tab_nil

section
attribute [local go_sem] T71 e_i de_i rb_i d_i rowAt_zero rowAt_succ List.set_cons_succ List.isEmpty_map List.map_append List.map_eq_nil_iff ne_eq List.length_replicate takeMap dropMap List.length_set Option.isSome_some
theorem D_cmp_Or_int_ok (N : Nat) (vals901 : List Int) (r : Int) (h : D_cmp_Or_int N vals901 = some r) : PCall Try.prog 71 [.sl 1 false (vals901.map e_i) [.i 0]] (.i r) := by
  refine pcall_fn (T71_ok N) _ Try.func71 ok71 nt71 (by simp) fun _ => ?_
  have hS := T71_ok N
  have F := f0
  unfold ac71 rv71
  unfold D_cmp_Or_int at h
  try simp only [gd_some, Option.bind_eq_some_iff] at h
  obtain ⟨o913, hL1, h⟩ := h
  refine go hS F ?_
  refine awp_cut (fun z : Nat => ⟨[(3, .i 0)], [], z⟩) (fun z => (.inl () : Sum Unit Int) = o913) (.x 0) ?_ ?_
  · refine awp_loop (fun y : Nat × Int × Nat => ⟨[(3, .i 0), (6, .sl 1 false (vals901.map e_i) [.i 0]), (7, .i (vals901.length : Int)), (8, .i y.2.1)], [], y.2.2⟩) (fun y => D_cmp_Or_int_L1 N vals901 y.1 y.2.1 = some o913) (fun y => y.1) (N, 0, 3) hL1 ?_ ?_
    · exact leF F
    · rintro ⟨n, x906, c905⟩ hB2
      try simp only at hB2
      obtain _ | n := n
      · exact absurd hB2 (by simp [D_cmp_Or_int_L1])
      rw [D_cmp_Or_int_L1] at hB2
      refine go hS F ?_
      refine cb F (decide (x906 < (vals901.length : Int))) (fun hc3 => ?_) (fun hc3 => ?_)
      · replace hB2 := cond_t hc3 hB2
        try simp only [gd_some, Option.bind_eq_some_iff] at hB2
        obtain ⟨x907, hn907, hB2⟩ := hB2
        have hx907 : vals901.getD x906.toNat 0 = x907 := ixs hn907 _
        have hb907 := (nth_some hn907).1
        replace F := fc hx907 F
        refine go hS F ?_
        refine cb F (decide (x907 ≠ 0)) (fun hc4 => ?_) (fun hc4 => ?_)
        · replace hB2 := cond_t hc4 hB2
          obtain rfl := Option.some.inj hB2
          try simp only at h
          obtain rfl := Option.some.inj h
          refine go hS F ?_
          exact fin F
        · replace hB2 := cond_f hc4 hB2
          try simp only [gd_some, Option.bind_eq_some_iff] at hB2
          obtain ⟨hv5, hB2⟩ := hB2
          simp only [I64] at hv5
          refine go hS F ?_
          exact backK_n (n, x906 + 1, c905 + 1 + 1 + 1 + 1) hB2 (Nat.lt_succ_self _) (leF F)
      · replace hB2 := cond_f hc3 hB2
        refine go hS F ?_
        exact cutK_h (c905 + 1) (Option.some.inj hB2) (leF F)
  · rintro c911 hz6
    subst hz6
    try simp only at h
    obtain rfl := Option.some.inj h
    refine go hS F ?_
    exact fin F
end

def s71 (N : Nat) : Spec
  | [.sl yvals901 _ vals901 _] => some (((yvals901 = 1 ∨ vals901 = []) ∧ vals901 = (vals901.map d_i).map e_i) ∧ (D_cmp_Or_int N (vals901.map d_i)).isSome = true, .i ((D_cmp_Or_int N (vals901.map d_i)).getD 0))
  | _ => none
theorem fok71 (N : Nat) : FOK Try.prog 71 (s71 N) := ⟨of71, by
  intro args vc r h hv
  unfold s71 at h
  split at h
  · cases h
    obtain ⟨⟨hy0, hr0⟩, hs⟩ := hv
    obtain ⟨r, hr⟩ := Option.isSome_iff_exists.1 hs
    have hk := D_cmp_Or_int_ok N _ r hr
    simp only [hr, Option.getD_some]
    refine PCall.arg ?_ hk
    simp only [wkL, wk, and_true, true_and, Bool.false_eq_true, false_implies, implies_true]
    repeat' (first | exact True.intro | assumption | apply And.intro)
  · simp at h⟩

/-! putlog/plane.order -/
def D_plane_order (N : Nat) (p914 : Int) (p915 : Int) (q916 : Int) (q917 : Int) : Option Int :=
  (D_cmp_Compare_int N p914 q916).bind fun r918 =>
  (D_cmp_Compare_int N p915 q917).bind fun r920 =>
  (D_cmp_Or_int N [r918, r920]).bind fun r922 =>
  some r922

def T56 (N : Nat) : List (Nat × Spec) := [(65, s65 N), (71, s71 N)]
theorem T56_ok (N : Nat) : TabOK Try.prog (tabOf (T56 N)) := tab_cons (fok65 N) (tab_cons (fok71 N) (tab_nil))

section
attribute [local go_sem] T56 s65 s71 e_i de_i rb_i d_i rowAt_zero rowAt_succ List.set_cons_succ List.isEmpty_map List.map_append List.map_eq_nil_iff ne_eq List.length_replicate takeMap dropMap List.length_set Option.isSome_some
theorem D_plane_order_ok (N : Nat) (p914 : Int) (p915 : Int) (q916 : Int) (q917 : Int) (r : Int) (h : D_plane_order N p914 p915 q916 q917 = some r) : PCall Try.prog 56 [.agg [.i p914, .i p915], .agg [.i q916, .i q917]] (.i r) := by
  refine pcall_fn (T56_ok N) _ Try.func56 ok56 nt56 (by simp) fun _ => ?_
  have hS := T56_ok N
  have F := f0
  unfold ac56 rv56
  unfold D_plane_order at h
  try simp only [gd_some, Option.bind_eq_some_iff] at h
  obtain ⟨r918, hr918, r920, hr920, r922, hr922, h⟩ := h
  replace F := fc hr922 (fc hr920 (fc hr918 F))
  obtain rfl := Option.some.inj h
  refine go hS F ?_
  exact fin F
end

def s56 (N : Nat) : Spec
  | [.agg [.v (.int .i64 p914), .v (.int .i64 p915)], .agg [.v (.int .i64 q916), .v (.int .i64 q917)]] => some ((D_plane_order N p914 p915 q916 q917).isSome = true, .i ((D_plane_order N p914 p915 q916 q917).getD 0))
  | _ => none
theorem fok56 (N : Nat) : FOK Try.prog 56 (s56 N) := ⟨of56, by
  intro args vc r h hv
  unfold s56 at h
  split at h
  · cases h
    have hs := hv
    obtain ⟨r, hr⟩ := Option.isSome_iff_exists.1 hs
    have hk := D_plane_order_ok N _ _ _ _ r hr
    simp only [hr, Option.getD_some]
    refine PCall.arg ?_ hk
    simp only [wkL, wk, and_true, true_and, Bool.false_eq_true, false_implies, implies_true]
    try trivial
  · simp at h⟩

/-! putlog/plane.gcd -/
def D_plane_gcd_L1 (N : Nat) : Nat → Int → Int → Option Int
  | 0, _, _ => none
  | n + 1, a928, b929 =>
    bif decide (b929 ≠ 0) then (
      gd (b929 ≠ 0) <|
      D_plane_gcd_L1 N n b929 (a928.tmod b929))
    else (
      some a928)

def D_plane_gcd (N : Nat) (a924 : Int) (b925 : Int) : Option Int :=
  (D_plane_gcd_L1 N N a924 b925).bind fun a934 =>
  gd (I64 (-a934)) <|
  some (max a934 (-a934))

def T47 (N : Nat) : List (Nat × Spec) := []
theorem T47_ok (N : Nat) : TabOK Try.prog (tabOf (T47 N)) := tab_nil

section
attribute [local go_sem] T47 rowAt_zero rowAt_succ List.set_cons_succ List.isEmpty_map List.map_append List.map_eq_nil_iff ne_eq List.length_replicate takeMap dropMap List.length_set Option.isSome_some
theorem D_plane_gcd_ok (N : Nat) (a924 : Int) (b925 : Int) (r : Int) (h : D_plane_gcd N a924 b925 = some r) : PCall Try.prog 47 [.i a924, .i b925] (.i r) := by
  refine pcall_fn (T47_ok N) _ Try.func47 ok47 nt47 (by simp) fun _ => ?_
  have hS := T47_ok N
  have F := f0
  unfold ac47 rv47
  unfold D_plane_gcd at h
  try simp only [gd_some, Option.bind_eq_some_iff] at h
  obtain ⟨o935, hL1, h⟩ := h
  refine go hS F ?_
  refine awp_cut (fun z : Int × Nat => ⟨[(0, .i z.1)], [], z.2⟩) (fun z => (z.1 : Int) = o935) (.x 0) ?_ ?_
  · refine awp_loop (fun y : Nat × Int × Int × Nat => ⟨[(0, .i y.2.1), (1, .i y.2.2.1)], [], y.2.2.2⟩) (fun y => D_plane_gcd_L1 N y.1 y.2.1 y.2.2.1 = some o935) (fun y => y.1) (N, a924, b925, 1) hL1 ?_ ?_
    · exact leF F
    · rintro ⟨n, a928, b929, c927⟩ hB2
      try simp only at hB2
      obtain _ | n := n
      · exact absurd hB2 (by simp [D_plane_gcd_L1])
      rw [D_plane_gcd_L1] at hB2
      refine go hS F ?_
      refine cb F (decide (b929 ≠ 0)) (fun hc3 => ?_) (fun hc3 => ?_)
      · replace hB2 := cond_t hc3 hB2
        try simp only [gd_some, Option.bind_eq_some_iff] at hB2
        obtain ⟨hv4, hB2⟩ := hB2
        refine go hS F ?_
        exact backK_n (n, b929, a928.tmod b929, c927 + 1 + 1) hB2 (Nat.lt_succ_self _) (leF F)
      · replace hB2 := cond_f hc3 hB2
        refine go hS F ?_
        exact cutK_h (a928, c927 + 1) (Option.some.inj hB2) (leF F)
  · rintro ⟨a934, c933⟩ hz5
    subst hz5
    try simp only at h
    try simp only [gd_some, Option.bind_eq_some_iff] at h
    obtain ⟨hv6, h⟩ := h
    simp only [I64] at hv6
    obtain rfl := Option.some.inj h
    refine go hS F ?_
    exact fin F
end

def s47 (N : Nat) : Spec
  | [.v (.int .i64 a924), .v (.int .i64 b925)] => some ((D_plane_gcd N a924 b925).isSome = true, .i ((D_plane_gcd N a924 b925).getD 0))
  | _ => none
theorem fok47 (N : Nat) : FOK Try.prog 47 (s47 N) := ⟨of47, by
  intro args vc r h hv
  unfold s47 at h
  split at h
  · cases h
    have hs := hv
    obtain ⟨r, hr⟩ := Option.isSome_iff_exists.1 hs
    have hk := D_plane_gcd_ok N _ _ r hr
    simp only [hr, Option.getD_some]
    refine PCall.arg ?_ hk
    simp only [wkL, wk, and_true, true_and, Bool.false_eq_true, false_implies, implies_true]
    try trivial
  · simp at h⟩
end Go.Proofs.Ytojciffnkbfbhaa.Am
