import Derived.Test.YtdabfcbelkjmgaaDoorD1
namespace Go.Proofs.YtdabfcbelkjmgaaDoor.Am
open Go
attribute [local irreducible] awp seqK blkK backK endK inlK restK rngK asgK itK
set_option maxRecDepth 100000
set_option maxHeartbeats 8000000
set_option linter.unusedSimpArgs false
set_option linter.unusedVariables false
def e_i (x : Int) : List AV := [.i x]
def d_i : List AV → Int
  | [.v (.int _ a1)] => a1
  | _ => 0
theorem d1_i (x : Int) : d_i (e_i x) = x := by rfl
theorem de_i (R : List Int) : (R.map e_i).map d_i = R := by
  induction R with
  | nil => rfl
  | cons r R ih => rw [List.map_cons, List.map_cons, ih, d1_i]

theorem rb_i (R : List Int) (i : Nat) : rowAt (R.map e_i) [.i 0] i = e_i (R.getD i 0) := by
  unfold rowAt; rw [List.getD_eq_getElem?_getD, List.getD_eq_getElem?_getD, List.getElem?_map]; cases R[i]? <;> rfl
/-! putlog/plane.turn -/
def D_plane_turn (N : Nat) (a501 : Int) (a502 : Int) (b503 : Int) (b504 : Int) (c505 : Int) (c506 : Int) : Option Int :=
  gd (I64 (b503 - a501)) <|
  gd (I64 (c506 - a502)) <|
  gd (I64 ((b503 - a501) * (c506 - a502))) <|
  gd (I64 (b504 - a502)) <|
  gd (I64 (c505 - a501)) <|
  gd (I64 ((b504 - a502) * (c505 - a501))) <|
  gd (I64 (((b503 - a501) * (c506 - a502)) - ((b504 - a502) * (c505 - a501)))) <|
  some (((b503 - a501) * (c506 - a502)) - ((b504 - a502) * (c505 - a501)))

def T56 (N : Nat) : List (Nat × Spec) := []
theorem T56_ok (N : Nat) : TabOK Tryd.prog (tabOf (T56 N)) := tab_nil

section
attribute [local go_sem] T56 rowAt_zero rowAt_succ List.set_cons_succ List.isEmpty_map List.map_append List.map_eq_nil_iff ne_eq List.length_replicate takeMap dropMap List.length_set Option.isSome_some
theorem D_plane_turn_ok (N : Nat) (a501 : Int) (a502 : Int) (b503 : Int) (b504 : Int) (c505 : Int) (c506 : Int) (r : Int) (h : D_plane_turn N a501 a502 b503 b504 c505 c506 = some r) : PCall Tryd.prog 56 [.agg [.i a501, .i a502], .agg [.i b503, .i b504], .agg [.i c505, .i c506]] (.i r) := by
  refine pcall_fn (T56_ok N) _ Tryd.func56 ok56 nt56 (by simp) fun _ => ?_
  have hS := T56_ok N
  have F := f0
  unfold ac56 rv56
  unfold D_plane_turn at h
  try simp only [gd_some, Option.bind_eq_some_iff] at h
  obtain ⟨hv1, hv2, hv3, hv4, hv5, hv6, hv7, h⟩ := h
  simp only [I64] at hv1
  simp only [I64] at hv2
  simp only [I64] at hv3
  simp only [I64] at hv4
  simp only [I64] at hv5
  simp only [I64] at hv6
  simp only [I64] at hv7
  obtain rfl := Option.some.inj h
  refine go hS F ?_
  exact fin F
end

def s56 (N : Nat) : Spec
  | [.agg [.v (.int .i64 a501), .v (.int .i64 a502)], .agg [.v (.int .i64 b503), .v (.int .i64 b504)], .agg [.v (.int .i64 c505), .v (.int .i64 c506)]] => some ((D_plane_turn N a501 a502 b503 b504 c505 c506).isSome = true, .i ((D_plane_turn N a501 a502 b503 b504 c505 c506).getD 0))
  | _ => none
theorem fok56 (N : Nat) : FOK Tryd.prog 56 (s56 N) := ⟨of56, by
  intro args vc r h hv
  unfold s56 at h
  split at h
  · cases h
    have hs := hv
    obtain ⟨r, hr⟩ := Option.isSome_iff_exists.1 hs
    have hk := D_plane_turn_ok N _ _ _ _ _ _ r hr
    simp only [hr, Option.getD_some]
    refine PCall.arg ?_ hk
    simp only [wkL, wk, and_true, true_and, Bool.false_eq_true, false_implies, implies_true]
    try trivial
  · simp at h⟩

/-! putlog/plane.isOff -/
def D_plane_isOff (N : Nat) (p507 : Int) (p508 : Int) : Option Bool :=
  some ((decide (min p507 p508 < 0)) || (decide (40 < max p507 p508)))

def T37 (N : Nat) : List (Nat × Spec) := []
theorem T37_ok (N : Nat) : TabOK Tryd.prog (tabOf (T37 N)) := tab_nil

section
attribute [local go_sem] T37 rowAt_zero rowAt_succ List.set_cons_succ List.isEmpty_map List.map_append List.map_eq_nil_iff ne_eq List.length_replicate takeMap dropMap List.length_set Option.isSome_some
theorem D_plane_isOff_ok (N : Nat) (p507 : Int) (p508 : Int) (r : Bool) (h : D_plane_isOff N p507 p508 = some r) : PCall Tryd.prog 37 [.agg [.i p507, .i p508]] (.b r) := by
  refine pcall_fn (T37_ok N) _ Tryd.func37 ok37 nt37 (by simp) fun _ => ?_
  have hS := T37_ok N
  have F := f0
  unfold ac37 rv37
  unfold D_plane_isOff at h
  obtain rfl := Option.some.inj h
  refine go hS F ?_
  exact fin F
end

def s37 (N : Nat) : Spec
  | [.agg [.v (.int .i64 p507), .v (.int .i64 p508)]] => some ((D_plane_isOff N p507 p508).isSome = true, .b ((D_plane_isOff N p507 p508).getD false))
  | _ => none
theorem fok37 (N : Nat) : FOK Tryd.prog 37 (s37 N) := ⟨of37, by
  intro args vc r h hv
  unfold s37 at h
  split at h
  · cases h
    have hs := hv
    obtain ⟨r, hr⟩ := Option.isSome_iff_exists.1 hs
    have hk := D_plane_isOff_ok N _ _ r hr
    simp only [hr, Option.getD_some]
    refine PCall.arg ?_ hk
    simp only [wkL, wk, and_true, true_and, Bool.false_eq_true, false_implies, implies_true]
    try trivial
  · simp at h⟩

/-! cmp.isNaN int  -/
def D_cmp_isNaN_int (N : Nat) (x509 : Int) : Option Bool :=
  some (decide (x509 ≠ x509))

def T77 (N : Nat) : List (Nat × Spec) := []
theorem T77_ok (N : Nat) : TabOK Tryd.prog (tabOf (T77 N)) := tab_nil

section
attribute [local go_sem] T77 rowAt_zero rowAt_succ List.set_cons_succ List.isEmpty_map List.map_append List.map_eq_nil_iff ne_eq List.length_replicate takeMap dropMap List.length_set Option.isSome_some
theorem D_cmp_isNaN_int_ok (N : Nat) (x509 : Int) (r : Bool) (h : D_cmp_isNaN_int N x509 = some r) : PCall Tryd.prog 77 [.i x509] (.b r) := by
  refine pcall_fn (T77_ok N) _ Tryd.func77 ok77 nt77 (by simp) fun _ => ?_
  have hS := T77_ok N
  have F := f0
  unfold ac77 rv77
  unfold D_cmp_isNaN_int at h
  obtain rfl := Option.some.inj h
  refine go hS F ?_
  exact fin F
end

def s77 (N : Nat) : Spec
  | [.v (.int .i64 x509)] => some ((D_cmp_isNaN_int N x509).isSome = true, .b ((D_cmp_isNaN_int N x509).getD false))
  | _ => none
theorem fok77 (N : Nat) : FOK Tryd.prog 77 (s77 N) := ⟨of77, by
  intro args vc r h hv
  unfold s77 at h
  split at h
  · cases h
    have hs := hv
    obtain ⟨r, hr⟩ := Option.isSome_iff_exists.1 hs
    have hk := D_cmp_isNaN_int_ok N _ r hr
    simp only [hr, Option.getD_some]
    refine PCall.arg ?_ hk
    simp only [wkL, wk, and_true, true_and, Bool.false_eq_true, false_implies, implies_true]
    try trivial
  · simp at h⟩

/-! cmp.Compare int  -/
def D_cmp_Compare_int (N : Nat) (x510 : Int) (y511 : Int) : Option Int :=
  (D_cmp_isNaN_int N x510).bind fun r512 =>
  (D_cmp_isNaN_int N y511).bind fun r514 =>
  bif r512 then (
    bif r514 then (
      some 0)
    else (
      some (-1)))
  else (
    bif r514 then (
      some 1)
    else (
      bif decide (x510 < y511) then (
        some (-1))
      else (
        bif decide (y511 < x510) then (
          some 1)
        else (
          some 0))))

def T64 (N : Nat) : List (Nat × Spec) := [(77, s77 N)]
theorem T64_ok (N : Nat) : TabOK Tryd.prog (tabOf (T64 N)) := tab_cons (fok77 N) (tab_nil)

section
attribute [local go_sem] T64 s77 rowAt_zero rowAt_succ List.set_cons_succ List.isEmpty_map List.map_append List.map_eq_nil_iff ne_eq List.length_replicate takeMap dropMap List.length_set Option.isSome_some
theorem D_cmp_Compare_int_ok (N : Nat) (x510 : Int) (y511 : Int) (r : Int) (h : D_cmp_Compare_int N x510 y511 = some r) : PCall Tryd.prog 64 [.i x510, .i y511] (.i r) := by
  refine pcall_fn (T64_ok N) _ Tryd.func64 ok64 nt64 (by simp) fun _ => ?_
  have hS := T64_ok N
  have F := f0
  unfold ac64 rv64
  unfold D_cmp_Compare_int at h
  try simp only [gd_some, Option.bind_eq_some_iff] at h
  obtain ⟨r512, hr512, r514, hr514, h⟩ := h
  replace F := fc hr514 (fc hr512 F)
  refine go hS F ?_
  refine cb F (r512) (fun hc1 => ?_) (fun hc1 => ?_)
  · replace h := cond_t hc1 h
    refine go hS F ?_
    refine cb F (r514) (fun hc2 => ?_) (fun hc2 => ?_)
    · replace h := cond_t hc2 h
      obtain rfl := Option.some.inj h
      refine go hS F ?_
      exact fin F
    · replace h := cond_f hc2 h
      obtain rfl := Option.some.inj h
      refine go hS F ?_
      exact fin F
  · replace h := cond_f hc1 h
    refine go hS F ?_
    refine cb F (r514) (fun hc3 => ?_) (fun hc3 => ?_)
    · replace h := cond_t hc3 h
      obtain rfl := Option.some.inj h
      refine go hS F ?_
      exact fin F
    · replace h := cond_f hc3 h
      refine go hS F ?_
      refine cb F (decide (x510 < y511)) (fun hc4 => ?_) (fun hc4 => ?_)
      · replace h := cond_t hc4 h
        obtain rfl := Option.some.inj h
        refine go hS F ?_
        exact fin F
      · replace h := cond_f hc4 h
        refine go hS F ?_
        refine cb F (decide (y511 < x510)) (fun hc5 => ?_) (fun hc5 => ?_)
        · replace h := cond_t hc5 h
          obtain rfl := Option.some.inj h
          refine go hS F ?_
          exact fin F
        · replace h := cond_f hc5 h
          obtain rfl := Option.some.inj h
          refine go hS F ?_
          exact fin F
end

def s64 (N : Nat) : Spec
  | [.v (.int .i64 x510), .v (.int .i64 y511)] => some ((D_cmp_Compare_int N x510 y511).isSome = true, .i ((D_cmp_Compare_int N x510 y511).getD 0))
  | _ => none
theorem fok64 (N : Nat) : FOK Tryd.prog 64 (s64 N) := ⟨of64, by
  intro args vc r h hv
  unfold s64 at h
  split at h
  · cases h
    have hs := hv
    obtain ⟨r, hr⟩ := Option.isSome_iff_exists.1 hs
    have hk := D_cmp_Compare_int_ok N _ _ r hr
    simp only [hr, Option.getD_some]
    refine PCall.arg ?_ hk
    simp only [wkL, wk, and_true, true_and, Bool.false_eq_true, false_implies, implies_true]
    try trivial
  · simp at h⟩

/-! cmp.Or int  -/
def D_cmp_Or_int_L1 (N : Nat) (vals516 : List Int) : Nat → Int → Option (Sum Unit Int)
  | 0, _ => none
  | n + 1, x521 =>
    bif decide (x521 < (vals516.length : Int)) then (
      (nth vals516 x521).bind fun x522 =>
      bif decide (x522 ≠ 0) then (
        some (.inr x522))
      else (
        gd (I64 (x521 + 1)) <|
        D_cmp_Or_int_L1 N vals516 n (x521 + 1)))
    else (
      some (.inl ()))

def D_cmp_Or_int (N : Nat) (vals516 : List Int) : Option Int :=
  (D_cmp_Or_int_L1 N vals516 N 0).bind fun o528 => match o528 with
    | .inl () => (
      some 0)
    | .inr r527 => (
      some r527)

def T73 (N : Nat) : List (Nat × Spec) := []
theorem T73_ok (N : Nat) : TabOK Tryd.prog (tabOf (T73 N)) := tab_nil

section
attribute [local go_sem] T73 e_i de_i rb_i d_i rowAt_zero rowAt_succ List.set_cons_succ List.isEmpty_map List.map_append List.map_eq_nil_iff ne_eq List.length_replicate takeMap dropMap List.length_set Option.isSome_some
theorem D_cmp_Or_int_ok (N : Nat) (vals516 : List Int) (r : Int) (h : D_cmp_Or_int N vals516 = some r) : PCall Tryd.prog 73 [.sl 1 false (vals516.map e_i) [.i 0]] (.i r) := by
  refine pcall_fn (T73_ok N) _ Tryd.func73 ok73 nt73 (by simp) fun _ => ?_
  have hS := T73_ok N
  have F := f0
  unfold ac73 rv73
  unfold D_cmp_Or_int at h
  try simp only [gd_some, Option.bind_eq_some_iff] at h
  obtain ⟨o528, hL1, h⟩ := h
  refine go hS F ?_
  refine awp_cut (fun z : Nat => ⟨[(3, .i 0)], [], z⟩) (fun z => (.inl () : Sum Unit Int) = o528) (.x 0) ?_ ?_
  · refine awp_loop (fun y : Nat × Int × Nat => ⟨[(3, .i 0), (6, .sl 1 false (vals516.map e_i) [.i 0]), (7, .i (vals516.length : Int)), (8, .i y.2.1)], [], y.2.2⟩) (fun y => D_cmp_Or_int_L1 N vals516 y.1 y.2.1 = some o528) (fun y => y.1) (N, 0, 3) hL1 ?_ ?_
    · exact leF F
    · rintro ⟨n, x521, c520⟩ hB2
      try simp only at hB2
      obtain _ | n := n
      · exact absurd hB2 (by simp [D_cmp_Or_int_L1])
      rw [D_cmp_Or_int_L1] at hB2
      refine go hS F ?_
      refine cb F (decide (x521 < (vals516.length : Int))) (fun hc3 => ?_) (fun hc3 => ?_)
      · replace hB2 := cond_t hc3 hB2
        try simp only [gd_some, Option.bind_eq_some_iff] at hB2
        obtain ⟨x522, hn522, hB2⟩ := hB2
        have hx522 : vals516.getD x521.toNat 0 = x522 := ixs hn522 _
        have hb522 := (nth_some hn522).1
        replace F := fc hx522 F
        refine go hS F ?_
        refine cb F (decide (x522 ≠ 0)) (fun hc4 => ?_) (fun hc4 => ?_)
        · replace hB2 := cond_t hc4 hB2
          obtain rfl := Option.some.inj hB2
          try simp only at h
          obtain rfl := Option.some.inj h
          refine go hS F ?_
          exact fin F
        · replace hB2 := cond_f hc4 hB2
          try simp only [gd_some, Option.bind_eq_some_iff] at hB2
          obtain ⟨hv5, hB2⟩ := hB2
          simp only [I64] at hv5
          refine go hS F ?_
          exact backK_n (n, x521 + 1, c520 + 1 + 1 + 1 + 1) hB2 (Nat.lt_succ_self _) (leF F)
      · replace hB2 := cond_f hc3 hB2
        refine go hS F ?_
        exact cutK_h (c520 + 1) (Option.some.inj hB2) (leF F)
  · rintro c526 hz6
    subst hz6
    try simp only at h
    obtain rfl := Option.some.inj h
    refine go hS F ?_
    exact fin F
end

def s73 (N : Nat) : Spec
  | [.sl yvals516 _ vals516 _] => some (((yvals516 = 1 ∨ vals516 = []) ∧ vals516 = (vals516.map d_i).map e_i) ∧ (D_cmp_Or_int N (vals516.map d_i)).isSome = true, .i ((D_cmp_Or_int N (vals516.map d_i)).getD 0))
  | _ => none
theorem fok73 (N : Nat) : FOK Tryd.prog 73 (s73 N) := ⟨of73, by
  intro args vc r h hv
  unfold s73 at h
  split at h
  · cases h
    obtain ⟨⟨hy0, hr0⟩, hs⟩ := hv
    obtain ⟨r, hr⟩ := Option.isSome_iff_exists.1 hs
    have hk := D_cmp_Or_int_ok N _ r hr
    simp only [hr, Option.getD_some]
    refine PCall.arg ?_ hk
    simp only [wkL, wk, and_true, true_and, Bool.false_eq_true, false_implies, implies_true]
    repeat' (first | exact True.intro | assumption | apply And.intro)
  · simp at h⟩

/-! putlog/plane.order -/
def D_plane_order (N : Nat) (p529 : Int) (p530 : Int) (q531 : Int) (q532 : Int) : Option Int :=
  (D_cmp_Compare_int N p529 q531).bind fun r533 =>
  (D_cmp_Compare_int N p530 q532).bind fun r535 =>
  (D_cmp_Or_int N [r533, r535]).bind fun r537 =>
  some r537

def T59 (N : Nat) : List (Nat × Spec) := [(64, s64 N), (73, s73 N)]
theorem T59_ok (N : Nat) : TabOK Tryd.prog (tabOf (T59 N)) := tab_cons (fok64 N) (tab_cons (fok73 N) (tab_nil))

section
attribute [local go_sem] T59 s64 s73 e_i de_i rb_i d_i rowAt_zero rowAt_succ List.set_cons_succ List.isEmpty_map List.map_append List.map_eq_nil_iff ne_eq List.length_replicate takeMap dropMap List.length_set Option.isSome_some
theorem D_plane_order_ok (N : Nat) (p529 : Int) (p530 : Int) (q531 : Int) (q532 : Int) (r : Int) (h : D_plane_order N p529 p530 q531 q532 = some r) : PCall Tryd.prog 59 [.agg [.i p529, .i p530], .agg [.i q531, .i q532]] (.i r) := by
  refine pcall_fn (T59_ok N) _ Tryd.func59 ok59 nt59 (by simp) fun _ => ?_
  have hS := T59_ok N
  have F := f0
  unfold ac59 rv59
  unfold D_plane_order at h
  try simp only [gd_some, Option.bind_eq_some_iff] at h
  obtain ⟨r533, hr533, r535, hr535, r537, hr537, h⟩ := h
  replace F := fc hr537 (fc hr535 (fc hr533 F))
  obtain rfl := Option.some.inj h
  refine go hS F ?_
  exact fin F
end

def s59 (N : Nat) : Spec
  | [.agg [.v (.int .i64 p529), .v (.int .i64 p530)], .agg [.v (.int .i64 q531), .v (.int .i64 q532)]] => some ((D_plane_order N p529 p530 q531 q532).isSome = true, .i ((D_plane_order N p529 p530 q531 q532).getD 0))
  | _ => none
theorem fok59 (N : Nat) : FOK Tryd.prog 59 (s59 N) := ⟨of59, by
  intro args vc r h hv
  unfold s59 at h
  split at h
  · cases h
    have hs := hv
    obtain ⟨r, hr⟩ := Option.isSome_iff_exists.1 hs
    have hk := D_plane_order_ok N _ _ _ _ r hr
    simp only [hr, Option.getD_some]
    refine PCall.arg ?_ hk
    simp only [wkL, wk, and_true, true_and, Bool.false_eq_true, false_implies, implies_true]
    try trivial
  · simp at h⟩
end Go.Proofs.YtdabfcbelkjmgaaDoor.Am
