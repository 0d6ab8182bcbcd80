import Derived.Test.YtojciffnkbfbhaaAc1
import Derived.Test.YtojciffnkbfbhaaA13
import Derived.Test.YtojciffnkbfbhaaP4
namespace Go.Proofs.Ytojciffnkbfbhaa.Am
open Go
attribute [local irreducible] awp seqK blkK backK endK inlK restK rngK asgK itK
set_option maxRecDepth 100000
set_option maxHeartbeats 8000000
set_option linter.unusedSimpArgs false
set_option linter.unusedVariables false
def e_ii (x : Int × Int) : List AV := [.i x.1, .i x.2]
def d_ii : List AV → Int × Int
  | [.v (.int _ a1), .v (.int _ a2)] => (a1, a2)
  | _ => (0, 0)
theorem d1_ii (x : Int × Int) : d_ii (e_ii x) = x := by rfl
theorem de_ii (R : List (Int × Int)) : (R.map e_ii).map d_ii = R := by
  induction R with
  | nil => rfl
  | cons r R ih => rw [List.map_cons, List.map_cons, ih, d1_ii]

theorem rb_ii (R : List (Int × Int)) (i : Nat) : rowAt (R.map e_ii) [.i 0, .i 0] i = e_ii (R.getD i (0, 0)) := by
  unfold rowAt; rw [List.getD_eq_getElem?_getD, List.getD_eq_getElem?_getD, List.getElem?_map]; cases R[i]? <;> rfl
/-! putlog/putlogref07.Turn -/
def D_putlogref07_Turn (N : Nat) (a1 : Int) (a2 : Int) (b3 : Int) (b4 : Int) (c5 : Int) (c6 : Int) : Option Int :=
  gd (I64 (b3 - a1)) <|
  gd (I64 (c6 - a2)) <|
  gd (I64 ((b3 - a1) * (c6 - a2))) <|
  gd (I64 (b4 - a2)) <|
  gd (I64 (c5 - a1)) <|
  gd (I64 ((b4 - a2) * (c5 - a1))) <|
  gd (I64 (((b3 - a1) * (c6 - a2)) - ((b4 - a2) * (c5 - a1)))) <|
  some (((b3 - a1) * (c6 - a2)) - ((b4 - a2) * (c5 - a1)))

def T28 (N : Nat) : List (Nat × Spec) := []
theorem T28_ok (N : Nat) : TabOK Try.prog (tabOf (T28 N)) := tab_nil

section
attribute [local go_sem] T28 rowAt_zero rowAt_succ List.set_cons_succ List.isEmpty_map List.map_append List.map_eq_nil_iff ne_eq List.length_replicate takeMap dropMap List.length_set Option.isSome_some
theorem D_putlogref07_Turn_ok (N : Nat) (a1 : Int) (a2 : Int) (b3 : Int) (b4 : Int) (c5 : Int) (c6 : Int) (r : Int) (h : D_putlogref07_Turn N a1 a2 b3 b4 c5 c6 = some r) : PCall Try.prog 28 [.agg [.i a1, .i a2], .agg [.i b3, .i b4], .agg [.i c5, .i c6]] (.i r) := by
  refine pcall_fn (T28_ok N) _ Try.func28 ok28 nt28 (by simp) fun _ => ?_
  have hS := T28_ok N
  have F := f0
  unfold ac28 rv28
  unfold D_putlogref07_Turn at h
  try simp only [gd_some, Option.bind_eq_some_iff] at h
  obtain ⟨hv1, hv2, hv3, hv4, hv5, hv6, hv7, h⟩ := h
  simp only [I64] at hv1
  simp only [I64] at hv2
  simp only [I64] at hv3
  simp only [I64] at hv4
  simp only [I64] at hv5
  simp only [I64] at hv6
  simp only [I64] at hv7
  obtain rfl := Option.some.inj h
  refine go hS F ?_
  exact fin F
end

def s28 (N : Nat) : Spec
  | [.agg [.v (.int .i64 a1), .v (.int .i64 a2)], .agg [.v (.int .i64 b3), .v (.int .i64 b4)], .agg [.v (.int .i64 c5), .v (.int .i64 c6)]] => some ((D_putlogref07_Turn N a1 a2 b3 b4 c5 c6).isSome = true, .i ((D_putlogref07_Turn N a1 a2 b3 b4 c5 c6).getD 0))
  | _ => none
theorem fok28 (N : Nat) : FOK Try.prog 28 (s28 N) := ⟨of28, by
  intro args vc r h hv
  unfold s28 at h
  split at h
  · cases h
    have hs := hv
    obtain ⟨r, hr⟩ := Option.isSome_iff_exists.1 hs
    have hk := D_putlogref07_Turn_ok N _ _ _ _ _ _ r hr
    simp only [hr, Option.getD_some]
    refine PCall.arg ?_ hk
    simp only [wkL, wk, and_true, true_and, Bool.false_eq_true, false_implies, implies_true]
    try trivial
  · simp at h⟩

/-! putlog/putlogref07.OnMap -/
def D_putlogref07_OnMap (N : Nat) (p7 : Int) (p8 : Int) : Option Bool :=
  some ((((decide (0 ≤ p7)) && (decide (p7 ≤ 40))) && (decide (0 ≤ p8))) && (decide (p8 ≤ 40)))

def T31 (N : Nat) : List (Nat × Spec) := []
theorem T31_ok (N : Nat) : TabOK Try.prog (tabOf (T31 N)) := tab_nil

section
attribute [local go_sem] T31 rowAt_zero rowAt_succ List.set_cons_succ List.isEmpty_map List.map_append List.map_eq_nil_iff ne_eq List.length_replicate takeMap dropMap List.length_set Option.isSome_some
theorem D_putlogref07_OnMap_ok (N : Nat) (p7 : Int) (p8 : Int) (r : Bool) (h : D_putlogref07_OnMap N p7 p8 = some r) : PCall Try.prog 31 [.agg [.i p7, .i p8]] (.b r) := by
  refine pcall_fn (T31_ok N) _ Try.func31 ok31 nt31 (by simp) fun _ => ?_
  have hS := T31_ok N
  have F := f0
  unfold ac31 rv31
  unfold D_putlogref07_OnMap at h
  obtain rfl := Option.some.inj h
  refine go hS F ?_
  exact fin F
end

def s31 (N : Nat) : Spec
  | [.agg [.v (.int .i64 p7), .v (.int .i64 p8)]] => some ((D_putlogref07_OnMap N p7 p8).isSome = true, .b ((D_putlogref07_OnMap N p7 p8).getD false))
  | _ => none
theorem fok31 (N : Nat) : FOK Try.prog 31 (s31 N) := ⟨of31, by
  intro args vc r h hv
  unfold s31 at h
  split at h
  · cases h
    have hs := hv
    obtain ⟨r, hr⟩ := Option.isSome_iff_exists.1 hs
    have hk := D_putlogref07_OnMap_ok N _ _ r hr
    simp only [hr, Option.getD_some]
    refine PCall.arg ?_ hk
    simp only [wkL, wk, and_true, true_and, Bool.false_eq_true, false_implies, implies_true]
    try trivial
  · simp at h⟩

/-! putlog/putlogref07.end -/
def D_putlogref07_end (N : Nat) (l9 : List (Int × Int)) (i10 : Int) : Option (Int × Int) :=
  gd (I64 (i10 + 1)) <|
  gd ((l9.length : Int) ≠ 0) <|
  (nth l9 ((i10 + 1).tmod (l9.length : Int))).bind fun (x11, x12) =>
  some (x11, x12)

def T59 (N : Nat) : List (Nat × Spec) := []
theorem T59_ok (N : Nat) : TabOK Try.prog (tabOf (T59 N)) := tab_nil

section
attribute [local go_sem] T59 e_ii de_ii rb_ii d_ii rowAt_zero rowAt_succ List.set_cons_succ List.isEmpty_map List.map_append List.map_eq_nil_iff ne_eq List.length_replicate takeMap dropMap List.length_set Option.isSome_some
theorem D_putlogref07_end_ok (N : Nat) (l9 : List (Int × Int)) (i10 : Int) (r : Int × Int) (h : D_putlogref07_end N l9 i10 = some r) : PCall Try.prog 59 [.sl 2 false (l9.map e_ii) [.i 0, .i 0], .i i10] (.agg [.i r.1, .i r.2]) := by
  refine pcall_fn (T59_ok N) _ Try.func59 ok59 nt59 (by simp) fun _ => ?_
  have hS := T59_ok N
  have F := f0
  unfold ac59 rv59
  unfold D_putlogref07_end at h
  try simp only [gd_some, Option.bind_eq_some_iff] at h
  obtain ⟨hv1, hv2, ⟨x11, x12⟩, hn12, h⟩ := h
  simp only [I64] at hv1
  have hx12 : l9.getD ((i10 + 1).tmod (l9.length : Int)).toNat (0, 0) = (x11, x12) := ixs hn12 _
  have hb12 := (nth_some hn12).1
  replace F := fc hx12 F
  obtain rfl := Option.some.inj h
  refine go hS F ?_
  exact fin F
end

def s59 (N : Nat) : Spec
  | [.sl yl9 _ l9 _, .v (.int .i64 i10)] => some (((yl9 = 2 ∨ l9 = []) ∧ l9 = (l9.map d_ii).map e_ii) ∧ (D_putlogref07_end N (l9.map d_ii) i10).isSome = true, .agg [.i (((D_putlogref07_end N (l9.map d_ii) i10).getD (0, 0)).1), .i (((D_putlogref07_end N (l9.map d_ii) i10).getD (0, 0)).2)])
  | _ => none
theorem fok59 (N : Nat) : FOK Try.prog 59 (s59 N) := ⟨of59, by
  intro args vc r h hv
  unfold s59 at h
  split at h
  · cases h
    obtain ⟨⟨hy0, hr0⟩, hs⟩ := hv
    obtain ⟨r, hr⟩ := Option.isSome_iff_exists.1 hs
    have hk := D_putlogref07_end_ok N _ _ r hr
    simp only [hr, Option.getD_some]
    refine PCall.arg ?_ hk
    simp only [wkL, wk, and_true, true_and, Bool.false_eq_true, false_implies, implies_true]
    repeat' (first | exact True.intro | assumption | apply And.intro)
  · simp at h⟩

/-! putlog/putlogref07.far -/
def D_putlogref07_far (N : Nat) (a14 : Int) (a15 : Int) (b16 : Int) (b17 : Int) : Option Int :=
  gd (I64 (a14 - b16)) <|
  gd (I64 (a14 - b16)) <|
  gd (I64 ((a14 - b16) * (a14 - b16))) <|
  gd (I64 (a15 - b17)) <|
  gd (I64 (a15 - b17)) <|
  gd (I64 ((a15 - b17) * (a15 - b17))) <|
  gd (I64 (((a14 - b16) * (a14 - b16)) + ((a15 - b17) * (a15 - b17)))) <|
  some (((a14 - b16) * (a14 - b16)) + ((a15 - b17) * (a15 - b17)))

def T63 (N : Nat) : List (Nat × Spec) := []
theorem T63_ok (N : Nat) : TabOK Try.prog (tabOf (T63 N)) := tab_nil

section
attribute [local go_sem] T63 rowAt_zero rowAt_succ List.set_cons_succ List.isEmpty_map List.map_append List.map_eq_nil_iff ne_eq List.length_replicate takeMap dropMap List.length_set Option.isSome_some
theorem D_putlogref07_far_ok (N : Nat) (a14 : Int) (a15 : Int) (b16 : Int) (b17 : Int) (r : Int) (h : D_putlogref07_far N a14 a15 b16 b17 = some r) : PCall Try.prog 63 [.agg [.i a14, .i a15], .agg [.i b16, .i b17]] (.i r) := by
  refine pcall_fn (T63_ok N) _ Try.func63 ok63 nt63 (by simp) fun _ => ?_
  have hS := T63_ok N
  have F := f0
  unfold ac63 rv63
  unfold D_putlogref07_far at h
  try simp only [gd_some, Option.bind_eq_some_iff] at h
  obtain ⟨hv1, hv2, hv3, hv4, hv5, hv6, hv7, h⟩ := h
  simp only [I64] at hv1
  simp only [I64] at hv2
  simp only [I64] at hv3
  simp only [I64] at hv4
  simp only [I64] at hv5
  simp only [I64] at hv6
  simp only [I64] at hv7
  obtain rfl := Option.some.inj h
  refine go hS F ?_
  exact fin F
end

def s63 (N : Nat) : Spec
  | [.agg [.v (.int .i64 a14), .v (.int .i64 a15)], .agg [.v (.int .i64 b16), .v (.int .i64 b17)]] => some ((D_putlogref07_far N a14 a15 b16 b17).isSome = true, .i ((D_putlogref07_far N a14 a15 b16 b17).getD 0))
  | _ => none
theorem fok63 (N : Nat) : FOK Try.prog 63 (s63 N) := ⟨of63, by
  intro args vc r h hv
  unfold s63 at h
  split at h
  · cases h
    have hs := hv
    obtain ⟨r, hr⟩ := Option.isSome_iff_exists.1 hs
    have hk := D_putlogref07_far_ok N _ _ _ _ r hr
    simp only [hr, Option.getD_some]
    refine PCall.arg ?_ hk
    simp only [wkL, wk, and_true, true_and, Bool.false_eq_true, false_implies, implies_true]
    try trivial
  · simp at h⟩

/-! putlog/putlogref07.pick -/
def D_putlogref07_pick (N : Nat) (c18 : Int) (n19 : Int) : Option Int :=
  bif decide (c18 < 0) then (
    gd (I64 (c18 + 1)) <|
    gd (I64 (-(c18 + 1))) <|
    gd (n19 ≠ 0) <|
    some ((-(c18 + 1)).tmod n19))
  else (
    gd (n19 ≠ 0) <|
    some (c18.tmod n19))

def T33 (N : Nat) : List (Nat × Spec) := []
theorem T33_ok (N : Nat) : TabOK Try.prog (tabOf (T33 N)) := tab_nil

section
attribute [local go_sem] T33 rowAt_zero rowAt_succ List.set_cons_succ List.isEmpty_map List.map_append List.map_eq_nil_iff ne_eq List.length_replicate takeMap dropMap List.length_set Option.isSome_some
theorem D_putlogref07_pick_ok (N : Nat) (c18 : Int) (n19 : Int) (r : Int) (h : D_putlogref07_pick N c18 n19 = some r) : PCall Try.prog 33 [.i c18, .i n19] (.i r) := by
  refine pcall_fn (T33_ok N) _ Try.func33 ok33 nt33 (by simp) fun _ => ?_
  have hS := T33_ok N
  have F := f0
  unfold ac33 rv33
  unfold D_putlogref07_pick at h
  refine go hS F ?_
  refine cb F (decide (c18 < 0)) (fun hc1 => ?_) (fun hc1 => ?_)
  · replace h := cond_t hc1 h
    try simp only [gd_some, Option.bind_eq_some_iff] at h
    obtain ⟨hv2, hv3, hv4, h⟩ := h
    simp only [I64] at hv2
    simp only [I64] at hv3
    obtain rfl := Option.some.inj h
    refine go hS F ?_
    exact fin F
  · replace h := cond_f hc1 h
    try simp only [gd_some, Option.bind_eq_some_iff] at h
    obtain ⟨hv5, h⟩ := h
    obtain rfl := Option.some.inj h
    refine go hS F ?_
    exact fin F
end

def s33 (N : Nat) : Spec
  | [.v (.int .i64 c18), .v (.int .i64 n19)] => some ((D_putlogref07_pick N c18 n19).isSome = true, .i ((D_putlogref07_pick N c18 n19).getD 0))
  | _ => none
theorem fok33 (N : Nat) : FOK Try.prog 33 (s33 N) := ⟨of33, by
  intro args vc r h hv
  unfold s33 at h
  split at h
  · cases h
    have hs := hv
    obtain ⟨r, hr⟩ := Option.isSome_iff_exists.1 hs
    have hk := D_putlogref07_pick_ok N _ _ r hr
    simp only [hr, Option.getD_some]
    refine PCall.arg ?_ hk
    simp only [wkL, wk, and_true, true_and, Bool.false_eq_true, false_implies, implies_true]
    try trivial
  · simp at h⟩

/-! putlog/putlogref07.Same -/
def D_putlogref07_Same_L1 (N : Nat) (a20 : List (Int × Int)) (b21 : List (Int × Int)) : Nat → Int → Option (Sum Unit Bool)
  | 0, _ => none
  | n + 1, i30 =>
    bif decide (i30 < (a20.length : Int)) then (
      (nth a20 i30).bind fun (x31, x32) =>
      (nth b21 i30).bind fun (x34, x35) =>
      bif !(decide (x31 = x34) && decide (x32 = x35)) then (
        some (.inr false))
      else (
        gd (I64 (i30 + 1)) <|
        D_putlogref07_Same_L1 N a20 b21 n (i30 + 1)))
    else (
      some (.inl ()))

def D_putlogref07_Same (N : Nat) (a20 : List (Int × Int)) (b21 : List (Int × Int)) : Option Bool :=
  bif decide ((a20.length : Int) ≠ (b21.length : Int)) then (
    some false)
  else (
    (D_putlogref07_Same_L1 N a20 b21 N 0).bind fun o41 => match o41 with
      | .inl () => (
        some true)
      | .inr r40 => (
        some r40))

def T32 (N : Nat) : List (Nat × Spec) := []
theorem T32_ok (N : Nat) : TabOK Try.prog (tabOf (T32 N)) := tab_nil

section
attribute [local go_sem] T32 e_ii de_ii rb_ii d_ii rowAt_zero rowAt_succ List.set_cons_succ List.isEmpty_map List.map_append List.map_eq_nil_iff ne_eq List.length_replicate takeMap dropMap List.length_set Option.isSome_some
theorem D_putlogref07_Same_ok (N : Nat) (a20 : List (Int × Int)) (b21 : List (Int × Int)) (r : Bool) (h : D_putlogref07_Same N a20 b21 = some r) : PCall Try.prog 32 [.sl 2 false (a20.map e_ii) [.i 0, .i 0], .sl 2 false (b21.map e_ii) [.i 0, .i 0]] (.b r) := by
  refine pcall_fn (T32_ok N) _ Try.func32 ok32 nt32 (by simp) fun _ => ?_
  have hS := T32_ok N
  have F := f0
  unfold ac32 rv32
  unfold D_putlogref07_Same at h
  refine go hS F ?_
  refine cb F (decide ((a20.length : Int) ≠ (b21.length : Int))) (fun hc1 => ?_) (fun hc1 => ?_)
  · replace h := cond_t hc1 h
    obtain rfl := Option.some.inj h
    refine go hS F ?_
    exact fin F
  · replace h := cond_f hc1 h
    try simp only [gd_some, Option.bind_eq_some_iff] at h
    obtain ⟨o41, hL2, h⟩ := h
    refine go hS F ?_
    refine awp_cut (fun z : Nat => ⟨[], [], z⟩) (fun z => (.inl () : Sum Unit Bool) = o41) (.x 0) ?_ ?_
    · refine awp_loop (fun y : Nat × Int × Nat => ⟨[(0, .sl 2 false (a20.map e_ii) [.i 0, .i 0]), (1, .sl 2 false (b21.map e_ii) [.i 0, .i 0]), (5, .i y.2.1)], [], y.2.2⟩) (fun y => D_putlogref07_Same_L1 N a20 b21 y.1 y.2.1 = some o41) (fun y => y.1) (N, 0, 3) hL2 ?_ ?_
      · exact leF F
      · rintro ⟨n, i30, c29⟩ hB3
        try simp only at hB3
        obtain _ | n := n
        · exact absurd hB3 (by simp [D_putlogref07_Same_L1])
        rw [D_putlogref07_Same_L1] at hB3
        refine go hS F ?_
        refine cb F (decide (i30 < (a20.length : Int))) (fun hc4 => ?_) (fun hc4 => ?_)
        · replace hB3 := cond_t hc4 hB3
          try simp only [gd_some, Option.bind_eq_some_iff] at hB3
          obtain ⟨⟨x31, x32⟩, hn32, hB3⟩ := hB3
          have hx32 : a20.getD i30.toNat (0, 0) = (x31, x32) := ixs hn32 _
          have hb32 := (nth_some hn32).1
          replace F := fc hx32 F
          try simp only [gd_some, Option.bind_eq_some_iff] at hB3
          obtain ⟨⟨x34, x35⟩, hn35, hB3⟩ := hB3
          have hx35 : b21.getD i30.toNat (0, 0) = (x34, x35) := ixs hn35 _
          have hb35 := (nth_some hn35).1
          replace F := fc hx35 F
          refine go hS F ?_
          refine cb F (!(decide (x31 = x34) && decide (x32 = x35))) (fun hc5 => ?_) (fun hc5 => ?_)
          · replace hB3 := cond_t hc5 hB3
            obtain rfl := Option.some.inj hB3
            try simp only at h
            obtain rfl := Option.some.inj h
            refine go hS F ?_
            exact fin F
          · replace hB3 := cond_f hc5 hB3
            try simp only [gd_some, Option.bind_eq_some_iff] at hB3
            obtain ⟨hv6, hB3⟩ := hB3
            simp only [I64] at hv6
            refine go hS F ?_
            exact backK_n (n, i30 + 1, c29 + 1 + 1 + 1) hB3 (Nat.lt_succ_self _) (leF F)
        · replace hB3 := cond_f hc4 hB3
          refine go hS F ?_
          exact cutK_h (c29 + 1) (Option.some.inj hB3) (leF F)
    · rintro c39 hz7
      subst hz7
      try simp only at h
      obtain rfl := Option.some.inj h
      refine go hS F ?_
      exact fin F
end

def s32 (N : Nat) : Spec
  | [.sl ya20 _ a20 _, .sl yb21 _ b21 _] => some (((ya20 = 2 ∨ a20 = []) ∧ a20 = (a20.map d_ii).map e_ii) ∧ ((yb21 = 2 ∨ b21 = []) ∧ b21 = (b21.map d_ii).map e_ii) ∧ (D_putlogref07_Same N (a20.map d_ii) (b21.map d_ii)).isSome = true, .b ((D_putlogref07_Same N (a20.map d_ii) (b21.map d_ii)).getD false))
  | _ => none
theorem fok32 (N : Nat) : FOK Try.prog 32 (s32 N) := ⟨of32, by
  intro args vc r h hv
  unfold s32 at h
  split at h
  · cases h
    obtain ⟨⟨hy0, hr0⟩, ⟨hy1, hr1⟩, hs⟩ := hv
    obtain ⟨r, hr⟩ := Option.isSome_iff_exists.1 hs
    have hk := D_putlogref07_Same_ok N _ _ r hr
    simp only [hr, Option.getD_some]
    refine PCall.arg ?_ hk
    simp only [wkL, wk, and_true, true_and, Bool.false_eq_true, false_implies, implies_true]
    repeat' (first | exact True.intro | assumption | apply And.intro)
  · simp at h⟩

/-! putlog/putlogref07.Hull -/
def D_putlogref07_Hull_L1 (N : Nat) (l42 : List (Int × Int)) : Nat → Int → Int → Int → Option (Int × Int)
  | 0, _, _, _ => none
  | n + 1, i53, first54, first55 =>
    bif decide (i53 < (l42.length : Int)) then (
      (nth l42 i53).bind fun (x56, x57) =>
      bif (decide (x57 < first55)) || ((decide (x57 = first55)) && (decide (x56 < first54))) then (
        gd (I64 (i53 + 1)) <|
        D_putlogref07_Hull_L1 N l42 n (i53 + 1) x56 x57)
      else (
        gd (I64 (i53 + 1)) <|
        D_putlogref07_Hull_L1 N l42 n (i53 + 1) first54 first55))
    else (
      some (first54, first55))

def D_putlogref07_Hull_L6 (N : Nat) (l42 : List (Int × Int)) (at112 : Int) (at113 : Int) : Nat → Int → Int → Int → Option (Int × Int)
  | 0, _, _, _ => none
  | n + 1, i119, next120, next121 =>
    bif decide (i119 < (l42.length : Int)) then (
      (nth l42 i119).bind fun (x122, x123) =>
      bif decide (x122 = at112) && decide (x123 = at113) then (
        gd (I64 (i119 + 1)) <|
        D_putlogref07_Hull_L6 N l42 at112 at113 n (i119 + 1) next120 next121)
      else (
        (D_putlogref07_Turn N at112 at113 next120 next121 x122 x123).bind fun r125 =>
        gd ((decide (r125 = 0)) = true → ((D_putlogref07_far N at112 at113 x122 x123).isSome = true)) <|
        gd ((decide (r125 = 0)) = true → ((D_putlogref07_far N at112 at113 next120 next121).isSome = true)) <|
        bif ((decide (next120 = at112) && decide (next121 = at113)) || (decide (r125 < 0))) || ((decide (r125 = 0)) && (decide ((D_putlogref07_far N at112 at113 next120 next121).getD 0 < (D_putlogref07_far N at112 at113 x122 x123).getD 0))) then (
          gd (I64 (i119 + 1)) <|
          D_putlogref07_Hull_L6 N l42 at112 at113 n (i119 + 1) x122 x123)
        else (
          gd (I64 (i119 + 1)) <|
          D_putlogref07_Hull_L6 N l42 at112 at113 n (i119 + 1) next120 next121)))
    else (
      some (next120, next121))

def D_putlogref07_Hull_L4 (N : Nat) (l42 : List (Int × Int)) (first64 : Int) (first65 : Int) : Nat → Int → Int → (List (Int × Int)) → Option ((List (Int × Int)))
  | 0, _, _, _ => none
  | n + 1, at112, at113, l114 =>
    (D_putlogref07_Hull_L6 N l42 at112 at113 N 0 at112 at113).bind fun (next132, next133) =>
    bif (decide (next132 = at112) && decide (next133 = at113)) || (decide (next132 = first64) && decide (next133 = first65)) then (
      some l114)
    else (
      gd ((l114.length + 1) * 16 ≤ 140737488355328) <|
      D_putlogref07_Hull_L4 N l42 first64 first65 n next132 next133 (l114 ++ [(next132, next133)]))

def D_putlogref07_Hull (N : Nat) (l42 : List (Int × Int)) : Option (List (Int × Int)) :=
  (nth l42 0).bind fun (x43, x44) =>
  (D_putlogref07_Hull_L1 N l42 N 0 x43 x44).bind fun (first64, first65) =>
  (D_putlogref07_Hull_L4 N l42 first64 first65 N first64 first65 [(first64, first65)]).bind fun r140 =>
  some r140

def T45 (N : Nat) : List (Nat × Spec) := [(28, s28 N), (63, s63 N)]
theorem T45_ok (N : Nat) : TabOK Try.prog (tabOf (T45 N)) := tab_cons (fok28 N) (tab_cons (fok63 N) (tab_nil))

section
attribute [local go_sem] T45 s28 s63 e_ii de_ii rb_ii d_ii rowAt_zero rowAt_succ List.set_cons_succ List.isEmpty_map List.map_append List.map_eq_nil_iff ne_eq List.length_replicate takeMap dropMap List.length_set Option.isSome_some
theorem D_putlogref07_Hull_ok (N : Nat) (l42 : List (Int × Int)) (r : List (Int × Int)) (h : D_putlogref07_Hull N l42 = some r) : PCall Try.prog 45 [.sl 2 false (l42.map e_ii) [.i 0, .i 0]] (.sl 2 false (r.map e_ii) [.i 0, .i 0]) := by
  refine pcall_fn (T45_ok N) _ Try.func45 ok45 nt45 (by simp) fun _ => ?_
  have hS := T45_ok N
  have F := f0
  unfold ac45 rv45
  unfold D_putlogref07_Hull at h
  try simp only [gd_some, Option.bind_eq_some_iff] at h
  obtain ⟨⟨x43, x44⟩, hn44, h⟩ := h
  have hx44 : l42.getD 0 (0, 0) = (x43, x44) := ixs hn44 _
  have hb44 := (nth_some hn44).1
  replace F := fc hx44 F
  try simp only [gd_some, Option.bind_eq_some_iff] at h
  obtain ⟨o66, hL1, h⟩ := h
  refine go hS F ?_
  refine awp_cut (fun z : Int × Int × Nat => ⟨[(0, .sl 2 false (l42.map e_ii) [.i 0, .i 0]), (3, .box (103, 2) 0)], [(.c (103, 2) 0, .i z.1), (.c (103, 2) 1, .i z.2.1)], z.2.2⟩) (fun z => ((z.1, z.2.1) : Int × Int) = o66) (.x 0) ?_ ?_
  · refine awp_loop (fun y : Nat × Int × Int × Int × Nat => ⟨[(0, .sl 2 false (l42.map e_ii) [.i 0, .i 0]), (3, .box (103, 2) 0), (4, .i y.2.1)], [(.c (103, 2) 0, .i y.2.2.1), (.c (103, 2) 1, .i y.2.2.2.1)], y.2.2.2.2⟩) (fun y => D_putlogref07_Hull_L1 N l42 y.1 y.2.1 y.2.2.1 y.2.2.2.1 = some o66) (fun y => y.1) (N, 0, x43, x44, 3) hL1 ?_ ?_
    · exact leF F
    · rintro ⟨n, i53, first54, first55, c52⟩ hB2
      try simp only at hB2
      obtain _ | n := n
      · exact absurd hB2 (by simp [D_putlogref07_Hull_L1])
      rw [D_putlogref07_Hull_L1] at hB2
      refine go hS F ?_
      refine cb F (decide (i53 < (l42.length : Int))) (fun hc3 => ?_) (fun hc3 => ?_)
      · replace hB2 := cond_t hc3 hB2
        try simp only [gd_some, Option.bind_eq_some_iff] at hB2
        obtain ⟨⟨x56, x57⟩, hn57, hB2⟩ := hB2
        have hx57 : l42.getD i53.toNat (0, 0) = (x56, x57) := ixs hn57 _
        have hb57 := (nth_some hn57).1
        replace F := fc hx57 F
        refine go hS F ?_
        refine cb F ((decide (x57 < first55)) || ((decide (x57 = first55)) && (decide (x56 < first54)))) (fun hc4 => ?_) (fun hc4 => ?_)
        · replace hB2 := cond_t hc4 hB2
          try simp only [gd_some, Option.bind_eq_some_iff] at hB2
          obtain ⟨hv5, hB2⟩ := hB2
          simp only [I64] at hv5
          refine go hS F ?_
          exact backK_n (n, i53 + 1, x56, x57, c52 + 1 + 1 + 1 + 1) hB2 (Nat.lt_succ_self _) (leF F)
        · replace hB2 := cond_f hc4 hB2
          try simp only [gd_some, Option.bind_eq_some_iff] at hB2
          obtain ⟨hv6, hB2⟩ := hB2
          simp only [I64] at hv6
          refine go hS F ?_
          exact backK_n (n, i53 + 1, first54, first55, c52 + 1 + 1 + 1) hB2 (Nat.lt_succ_self _) (leF F)
      · replace hB2 := cond_f hc3 hB2
        refine go hS F ?_
        exact cutK_h (first54, first55, c52 + 1) (Option.some.inj hB2) (leF F)
  · rintro ⟨first64, first65, c63⟩ hz7
    subst hz7
    try simp only at h
    refine go hS F ?_
    refine awp_rebox 2200 6 2 (by show (6 : Nat) < 116; omega) (by omega) (by simp only [go_sem, seval, F] <;> eq_refl) (by simp only [go_sem, seval, F] <;> eq_refl) ?_
    try simp only [gd_some, Option.bind_eq_some_iff] at h
    obtain ⟨o141, hL8, h⟩ := h
    refine go hS F ?_
    refine awp_loop (fun y : Nat × Int × Int × (List (Int × Int)) × Nat × Nat => ⟨[(0, .sl 2 false (l42.map e_ii) [.i 0, .i 0]), (3, .box (103, 2) 0), (5, .own (701, c63 + 1) y.2.2.2.1.length), (6, .box (2200, y.2.2.2.2.1) 0)], [(.c (2200, y.2.2.2.2.1) 0, .i y.2.1), (.c (2200, y.2.2.2.2.1) 1, .i y.2.2.1), (.a (701, c63 + 1), .sl 2 true (y.2.2.2.1.map e_ii) [.i 0, .i 0]), (.c (103, 2) 0, .i first64), (.c (103, 2) 1, .i first65)], y.2.2.2.2.2⟩) (fun y => D_putlogref07_Hull_L4 N l42 first64 first65 y.1 y.2.1 y.2.2.1 y.2.2.2.1 = some o141) (fun y => y.1) (N, first64, first65, [(first64, first65)], c63 + 1 + 1 + 1, c63 + 1 + 1 + 1) hL8 ?_ ?_
    · exact leF F
    · rintro ⟨n, at112, at113, l114, v111, c110⟩ hB9
      try simp only at hB9
      obtain _ | n := n
      · exact absurd hB9 (by simp [D_putlogref07_Hull_L4])
      rw [D_putlogref07_Hull_L4] at hB9
      try simp only [gd_some, Option.bind_eq_some_iff] at hB9
      obtain ⟨o134, hL10, hB9⟩ := hB9
      refine go hS F ?_
      refine awp_cut (fun z : Int × Int × Nat => ⟨[(0, .sl 2 false (l42.map e_ii) [.i 0, .i 0]), (3, .box (103, 2) 0), (5, .own (701, c63 + 1) l114.length), (6, .box (2200, v111) 0), (7, .box (901, c110 + 1) 0)], [(.c (901, c110 + 1) 0, .i z.1), (.c (901, c110 + 1) 1, .i z.2.1), (.c (2200, v111) 0, .i at112), (.c (2200, v111) 1, .i at113), (.a (701, c63 + 1), .sl 2 true (l114.map e_ii) [.i 0, .i 0]), (.c (103, 2) 0, .i first64), (.c (103, 2) 1, .i first65)], z.2.2⟩) (fun z => ((z.1, z.2.1) : Int × Int) = o134) (.x 4) ?_ ?_
      · refine awp_loop (fun y : Nat × Int × Int × Int × Nat => ⟨[(0, .sl 2 false (l42.map e_ii) [.i 0, .i 0]), (3, .box (103, 2) 0), (5, .own (701, c63 + 1) l114.length), (6, .box (2200, v111) 0), (7, .box (901, c110 + 1) 0), (8, .i y.2.1)], [(.c (901, c110 + 1) 0, .i y.2.2.1), (.c (901, c110 + 1) 1, .i y.2.2.2.1), (.c (2200, v111) 0, .i at112), (.c (2200, v111) 1, .i at113), (.a (701, c63 + 1), .sl 2 true (l114.map e_ii) [.i 0, .i 0]), (.c (103, 2) 0, .i first64), (.c (103, 2) 1, .i first65)], y.2.2.2.2⟩) (fun y => D_putlogref07_Hull_L6 N l42 at112 at113 y.1 y.2.1 y.2.2.1 y.2.2.2.1 = some o134) (fun y => y.1) (N, 0, at112, at113, c110 + 1 + 1) hL10 ?_ ?_
        · exact leF F
        · rintro ⟨n, i119, next120, next121, c118⟩ hB11
          try simp only at hB11
          obtain _ | n := n
          · exact absurd hB11 (by simp [D_putlogref07_Hull_L6])
          rw [D_putlogref07_Hull_L6] at hB11
          refine go hS F ?_
          refine cb F (decide (i119 < (l42.length : Int))) (fun hc12 => ?_) (fun hc12 => ?_)
          · replace hB11 := cond_t hc12 hB11
            try simp only [gd_some, Option.bind_eq_some_iff] at hB11
            obtain ⟨⟨x122, x123⟩, hn123, hB11⟩ := hB11
            have hx123 : l42.getD i119.toNat (0, 0) = (x122, x123) := ixs hn123 _
            have hb123 := (nth_some hn123).1
            replace F := fc hx123 F
            refine go hS F ?_
            refine cb F (decide (x122 = at112) && decide (x123 = at113)) (fun hc13 => ?_) (fun hc13 => ?_)
            · replace hB11 := cond_t hc13 hB11
              try simp only [gd_some, Option.bind_eq_some_iff] at hB11
              obtain ⟨hv14, hB11⟩ := hB11
              simp only [I64] at hv14
              refine go hS F ?_
              exact backK_n (n, i119 + 1, next120, next121, c118 + 1 + 1 + 1) hB11 (Nat.lt_succ_self _) (leF F)
            · replace hB11 := cond_f hc13 hB11
              try simp only [gd_some, Option.bind_eq_some_iff] at hB11
              obtain ⟨r125, hr125, hv15, hv16, hB11⟩ := hB11
              replace F := fc hr125 F
              refine go hS F ?_
              refine cb F (((decide (next120 = at112) && decide (next121 = at113)) || (decide (r125 < 0))) || ((decide (r125 = 0)) && (decide ((D_putlogref07_far N at112 at113 next120 next121).getD 0 < (D_putlogref07_far N at112 at113 x122 x123).getD 0)))) (fun hc17 => ?_) (fun hc17 => ?_)
              · replace hB11 := cond_t hc17 hB11
                try simp only [gd_some, Option.bind_eq_some_iff] at hB11
                obtain ⟨hv18, hB11⟩ := hB11
                simp only [I64] at hv18
                refine go hS F ?_
                exact backK_n (n, i119 + 1, x122, x123, c118 + 1 + 1 + 1 + 1 + 1 + 1) hB11 (Nat.lt_succ_self _) (leF F)
              · replace hB11 := cond_f hc17 hB11
                try simp only [gd_some, Option.bind_eq_some_iff] at hB11
                obtain ⟨hv19, hB11⟩ := hB11
                simp only [I64] at hv19
                refine go hS F ?_
                exact backK_n (n, i119 + 1, next120, next121, c118 + 1 + 1 + 1 + 1 + 1) hB11 (Nat.lt_succ_self _) (leF F)
          · replace hB11 := cond_f hc12 hB11
            refine go hS F ?_
            exact cutK_h (next120, next121, c118 + 1) (Option.some.inj hB11) (leF F)
      · rintro ⟨next132, next133, c131⟩ hz20
        subst hz20
        try simp only at hB9
        refine go hS F ?_
        refine cb F ((decide (next132 = at112) && decide (next133 = at113)) || (decide (next132 = first64) && decide (next133 = first65))) (fun hc21 => ?_) (fun hc21 => ?_)
        · replace hB9 := cond_t hc21 hB9
          obtain rfl := Option.some.inj hB9
          try simp only at h
          obtain rfl := Option.some.inj h
          refine go hS F ?_
          exact fin F
        · replace hB9 := cond_f hc21 hB9
          try simp only [gd_some, Option.bind_eq_some_iff] at hB9
          obtain ⟨hv22, hB9⟩ := hB9
          refine go hS F ?_
          exact backK_n (n, next132, next133, l114 ++ [(next132, next133)], c131 + 1 + 1 + 1 + 1 + 1, c131 + 1 + 1 + 1 + 1 + 1) hB9 (Nat.lt_succ_self _) (leF F)
end

def s45 (N : Nat) : Spec
  | [.sl yl42 _ l42 _] => some (((yl42 = 2 ∨ l42 = []) ∧ l42 = (l42.map d_ii).map e_ii) ∧ (D_putlogref07_Hull N (l42.map d_ii)).isSome = true, .sl 2 false (((D_putlogref07_Hull N (l42.map d_ii)).getD []).map e_ii) [.i 0, .i 0])
  | _ => none
theorem fok45 (N : Nat) : FOK Try.prog 45 (s45 N) := ⟨of45, by
  intro args vc r h hv
  unfold s45 at h
  split at h
  · cases h
    obtain ⟨⟨hy0, hr0⟩, hs⟩ := hv
    obtain ⟨r, hr⟩ := Option.isSome_iff_exists.1 hs
    have hk := D_putlogref07_Hull_ok N _ r hr
    simp only [hr, Option.getD_some]
    refine PCall.arg ?_ hk
    simp only [wkL, wk, and_true, true_and, Bool.false_eq_true, false_implies, implies_true]
    repeat' (first | exact True.intro | assumption | apply And.intro)
  · simp at h⟩

/-! putlog/putlogref07.Made -/
def D_putlogref07_Made_L2 (N : Nat) (x142 : List (Int × Int)) (high144 : Int) (low143 : Int) : Nat → Int → (List (Int × Int)) → Option ((List (Int × Int)))
  | 0, _, _ => none
  | n + 1, i163, l164 =>
    bif (decide (i163 < (x142.length : Int))) && (decide (i163 < 8)) then (
      (nth x142 i163).bind fun (x165, x166) =>
      gd (I64 (high144 - low143)) <|
      gd (I64 ((high144 - low143) + 1)) <|
      (D_putlogref07_pick N x165 ((high144 - low143) + 1)).bind fun r168 =>
      gd (I64 (low143 + r168)) <|
      (D_putlogref07_pick N x166 41).bind fun r170 =>
      gd ((l164.length + 1) * 16 ≤ 140737488355328) <|
      gd (I64 (i163 + 1)) <|
      D_putlogref07_Made_L2 N x142 high144 low143 n (i163 + 1) (l164 ++ [(low143 + r168, r170)]))
    else (
      some l164)

def D_putlogref07_Made (N : Nat) (x142 : List (Int × Int)) (low143 : Int) (high144 : Int) : Option (List (Int × Int)) :=
  (D_putlogref07_Made_L2 N x142 high144 low143 N 0 []).bind fun l176 =>
  (bif decide (0 < (l176.length : Int)) then (
      (D_putlogref07_Hull N l176).bind fun r193 =>
      bif decide (3 ≤ (r193.length : Int)) then (
        some r193)
      else (
        some [(low143, 10), (high144, 10), (low143, 20)]))
    else (
      some [(low143, 10), (high144, 10), (low143, 20)]) : Option ((List (Int × Int)))).bind fun l196 =>
  bif decide (0 < (x142.length : Int)) then (
    (nth x142 0).bind fun (x203, x204) =>
    gd (I64 (x203.tdiv 41)) <|
    (D_putlogref07_pick N (x203.tdiv 41) (l196.length : Int)).bind fun r206 =>
    gd (0 ≤ r206 ∧ r206 ≤ (l196.length : Int)) <|
    gd (((l196.drop r206.toNat).length) * 16 ≤ 140737488355328) <|
    gd (0 ≤ 0 ∧ 0 ≤ r206 ∧ r206 ≤ (l196.length : Int)) <|
    gd (((l196.drop r206.toNat).length + (l196.take (r206.toNat - 0)).length) * 16 ≤ 140737488355328) <|
    some (l196.drop r206.toNat ++ (l196.take (r206.toNat - 0))))
  else (
    gd (0 ≤ 0 ∧ 0 ≤ (l196.length : Int)) <|
    gd (((l196.drop 0).length) * 16 ≤ 140737488355328) <|
    gd (0 ≤ 0 ∧ 0 ≤ 0 ∧ 0 ≤ (l196.length : Int)) <|
    gd (((l196.drop 0).length) * 16 ≤ 140737488355328) <|
    some (l196.drop 0))

def T15 (N : Nat) : List (Nat × Spec) := [(33, s33 N), (45, s45 N)]
theorem T15_ok (N : Nat) : TabOK Try.prog (tabOf (T15 N)) := tab_cons (fok33 N) (tab_cons (fok45 N) (tab_nil))

section
attribute [local go_sem] T15 s33 s45 e_ii de_ii rb_ii d_ii rowAt_zero rowAt_succ List.set_cons_succ List.isEmpty_map List.map_append List.map_eq_nil_iff ne_eq List.length_replicate takeMap dropMap List.length_set Option.isSome_some
theorem D_putlogref07_Made_ok (N : Nat) (x142 : List (Int × Int)) (low143 : Int) (high144 : Int) (r : List (Int × Int)) (h : D_putlogref07_Made N x142 low143 high144 = some r) : PCall Try.prog 15 [.sl 2 false (x142.map e_ii) [.i 0, .i 0], .i low143, .i high144] (.sl 2 false (r.map e_ii) [.i 0, .i 0]) := by
  refine pcall_fn (T15_ok N) _ Try.func15 ok15 nt15 (by simp) fun _ => ?_
  have hS := T15_ok N
  have F := f0
  unfold ac15 rv15
  unfold D_putlogref07_Made at h
  refine go hS F ?_
  refine awp_claimEk 1000001 8 2 [.i 0, .i 0] (by show (8 : Nat) < 80; omega) (by omega) (by simp only [go_sem, seval, F] <;> eq_refl) ?_
  try simp only [gd_some, Option.bind_eq_some_iff] at h
  obtain ⟨o177, hL1, h⟩ := h
  refine go hS F ?_
  refine awp_cut (fun z : (List (Int × Int)) × Nat => ⟨[(0, .sl 2 false (x142.map e_ii) [.i 0, .i 0]), (7, .own (106, 2) [(low143, 10), (high144, 10), (low143, 20)].length), (8, .own (1000001, 5) z.1.length)], [(.a (1000001, 5), .sl 2 true (z.1.map e_ii) [.i 0, .i 0]), (.a (106, 2), .sl 2 true ([(low143, 10), (high144, 10), (low143, 20)].map e_ii) [.i 0, .i 0])], z.2⟩) (fun z => (z.1 : (List (Int × Int))) = o177) (.x 0) ?_ ?_
  · refine awp_loop (fun y : Nat × Int × (List (Int × Int)) × Nat => ⟨[(0, .sl 2 false (x142.map e_ii) [.i 0, .i 0]), (1, .i low143), (2, .i high144), (7, .own (106, 2) [(low143, 10), (high144, 10), (low143, 20)].length), (8, .own (1000001, 5) y.2.2.1.length), (9, .i y.2.1)], [(.a (1000001, 5), .sl 2 true (y.2.2.1.map e_ii) [.i 0, .i 0]), (.a (106, 2), .sl 2 true ([(low143, 10), (high144, 10), (low143, 20)].map e_ii) [.i 0, .i 0])], y.2.2.2⟩) (fun y => D_putlogref07_Made_L2 N x142 high144 low143 y.1 y.2.1 y.2.2.1 = some o177) (fun y => y.1) (N, 0, [], 5) hL1 ?_ ?_
    · exact leF F
    · rintro ⟨n, i163, l164, c162⟩ hB2
      try simp only at hB2
      obtain _ | n := n
      · exact absurd hB2 (by simp [D_putlogref07_Made_L2])
      rw [D_putlogref07_Made_L2] at hB2
      refine go hS F ?_
      refine cb F ((decide (i163 < (x142.length : Int))) && (decide (i163 < 8))) (fun hc3 => ?_) (fun hc3 => ?_)
      · replace hB2 := cond_t hc3 hB2
        try simp only [gd_some, Option.bind_eq_some_iff] at hB2
        obtain ⟨⟨x165, x166⟩, hn166, hB2⟩ := hB2
        have hx166 : x142.getD i163.toNat (0, 0) = (x165, x166) := ixs hn166 _
        have hb166 := (nth_some hn166).1
        replace F := fc hx166 F
        try simp only [gd_some, Option.bind_eq_some_iff] at hB2
        obtain ⟨hv4, hv5, r168, hr168, hv6, r170, hr170, hv7, hv8, hB2⟩ := hB2
        simp only [I64] at hv4
        simp only [I64] at hv5
        simp only [I64] at hv6
        simp only [I64] at hv8
        replace F := fc hr170 (fc hr168 F)
        refine go hS F ?_
        exact backK_n (n, i163 + 1, l164 ++ [(low143 + r168, r170)], c162 + 1 + 1 + 1) hB2 (Nat.lt_succ_self _) (leF F)
      · replace hB2 := cond_f hc3 hB2
        refine go hS F ?_
        exact cutK_h (l164, c162 + 1) (Option.some.inj hB2) (leF F)
  · rintro ⟨l176, c175⟩ hz9
    subst hz9
    try simp only at h
    refine go hS F ?_
    refine awp_frzE 7 (by show (7 : Nat) < 80; omega) (by simp only [go_sem, seval, F] <;> eq_refl) (by simp only [go_sem, seval, F] <;> eq_refl) (by simp) ?_
    try simp only [gd_some, Option.bind_eq_some_iff] at h
    obtain ⟨o197, hL10, h⟩ := h
    refine go hS F ?_
    refine awp_cut (fun z : (List (Int × Int)) × Nat => ⟨[(0, .sl 2 false (x142.map e_ii) [.i 0, .i 0]), (7, .sl 2 false (z.1.map e_ii) [.i 0, .i 0])], [], z.2⟩) (fun z => (z.1 : (List (Int × Int))) = o197) .n ?_ ?_
    · refine go hS F ?_
      refine cb F (decide (0 < (l176.length : Int))) (fun hc11 => ?_) (fun hc11 => ?_)
      · replace hL10 := cond_t hc11 hL10
        try simp only [gd_some, Option.bind_eq_some_iff] at hL10
        obtain ⟨r193, hr193, hL10⟩ := hL10
        replace F := fc hr193 F
        refine go hS F ?_
        refine cb F (decide (3 ≤ (r193.length : Int))) (fun hc12 => ?_) (fun hc12 => ?_)
        · replace hL10 := cond_t hc12 hL10
          refine go hS F ?_
          exact cutK_h (r193, c175 + 1 + 1 + 1 + 1) (Option.some.inj hL10) (leF F)
        · replace hL10 := cond_f hc12 hL10
          refine go hS F ?_
          exact cutK_h ([(low143, 10), (high144, 10), (low143, 20)], c175 + 1 + 1 + 1) (Option.some.inj hL10) (leF F)
      · replace hL10 := cond_f hc11 hL10
        refine go hS F ?_
        exact cutK_h ([(low143, 10), (high144, 10), (low143, 20)], c175 + 1) (Option.some.inj hL10) (leF F)
    · rintro ⟨l196, c195⟩ hz13
      subst hz13
      try simp only at h
      refine go hS F ?_
      refine cb F (decide (0 < (x142.length : Int))) (fun hc14 => ?_) (fun hc14 => ?_)
      · replace h := cond_t hc14 h
        try simp only [gd_some, Option.bind_eq_some_iff] at h
        obtain ⟨⟨x203, x204⟩, hn204, h⟩ := h
        have hx204 : x142.getD 0 (0, 0) = (x203, x204) := ixs hn204 _
        have hb204 := (nth_some hn204).1
        replace F := fc hx204 F
        try simp only [gd_some, Option.bind_eq_some_iff] at h
        obtain ⟨hv15, r206, hr206, hv16, hv17, hv18, hv19, h⟩ := h
        simp only [I64] at hv15
        replace F := fc hr206 F
        obtain rfl := Option.some.inj h
        refine go hS F ?_
        exact fin F
      · replace h := cond_f hc14 h
        try simp only [gd_some, Option.bind_eq_some_iff] at h
        obtain ⟨hv20, hv21, hv22, hv23, h⟩ := h
        obtain rfl := Option.some.inj h
        refine go hS F ?_
        exact fin F
end

def s15 (N : Nat) : Spec
  | [.sl yx142 _ x142 _, .v (.int .i64 low143), .v (.int .i64 high144)] => some (((yx142 = 2 ∨ x142 = []) ∧ x142 = (x142.map d_ii).map e_ii) ∧ (D_putlogref07_Made N (x142.map d_ii) low143 high144).isSome = true, .sl 2 false (((D_putlogref07_Made N (x142.map d_ii) low143 high144).getD []).map e_ii) [.i 0, .i 0])
  | _ => none
theorem fok15 (N : Nat) : FOK Try.prog 15 (s15 N) := ⟨of15, by
  intro args vc r h hv
  unfold s15 at h
  split at h
  · cases h
    obtain ⟨⟨hy0, hr0⟩, hs⟩ := hv
    obtain ⟨r, hr⟩ := Option.isSome_iff_exists.1 hs
    have hk := D_putlogref07_Made_ok N _ _ _ r hr
    simp only [hr, Option.getD_some]
    refine PCall.arg ?_ hk
    simp only [wkL, wk, and_true, true_and, Bool.false_eq_true, false_implies, implies_true]
    repeat' (first | exact True.intro | assumption | apply And.intro)
  · simp at h⟩
end Go.Proofs.Ytojciffnkbfbhaa.Am
