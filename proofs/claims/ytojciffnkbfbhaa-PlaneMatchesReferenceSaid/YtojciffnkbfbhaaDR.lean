import Derived.Test.YtojciffnkbfbhaaD2
import Derived.Test.YtojciffnkbfbhaaAc3
namespace Go.Proofs.Ytojciffnkbfbhaa.Am
open Go
attribute [local irreducible] awp seqK blkK backK endK inlK restK rngK asgK itK
set_option maxRecDepth 100000
set_option maxHeartbeats 8000000
set_option linter.unusedSimpArgs false
set_option linter.unusedVariables false
/-! putlog/putlogref07.where -/
def D_putlogref07_where_L1 (N : Nat) (l523 : List (Int × Int)) (p524 : Int) (p525 : Int) : Nat → Int → Int → Option (Sum Int Int)
  | 0, _, _ => none
  | n + 1, out536, i537 =>
    bif decide (i537 < (l523.length : Int)) then (
      (nth l523 i537).bind fun (x538, x539) =>
      (D_putlogref07_end N l523 i537).bind fun (r541, r542) =>
      (D_putlogref07_Turn N x538 x539 r541 r542 p524 p525).bind fun r544 =>
      bif decide (r544 < 0) then (
        some (.inr (-1)))
      else (
        bif decide (r544 = 0) then (
          gd (I64 (i537 + 1)) <|
          D_putlogref07_where_L1 N l523 p524 p525 n 0 (i537 + 1))
        else (
          gd (I64 (i537 + 1)) <|
          D_putlogref07_where_L1 N l523 p524 p525 n out536 (i537 + 1))))
    else (
      some (.inl out536))

def D_putlogref07_where (N : Nat) (l523 : List (Int × Int)) (p524 : Int) (p525 : Int) : Option Int :=
  (D_putlogref07_where_L1 N l523 p524 p525 N 1 0).bind fun o552 => match o552 with
    | .inl out550 => (
      some out550)
    | .inr r551 => (
      some r551)

def T60 (N : Nat) : List (Nat × Spec) := [(59, s59 N), (28, s28 N)]
theorem T60_ok (N : Nat) : TabOK Try.prog (tabOf (T60 N)) := tab_cons (fok59 N) (tab_cons (fok28 N) (tab_nil))

section
attribute [local go_sem] T60 s59 s28 e_ii de_ii rb_ii d_ii rowAt_zero rowAt_succ List.set_cons_succ List.isEmpty_map List.map_append List.map_eq_nil_iff ne_eq List.length_replicate takeMap dropMap List.length_set Option.isSome_some
theorem D_putlogref07_where_ok (N : Nat) (l523 : List (Int × Int)) (p524 : Int) (p525 : Int) (r : Int) (h : D_putlogref07_where N l523 p524 p525 = some r) : PCall Try.prog 60 [.sl 2 false (l523.map e_ii) [.i 0, .i 0], .agg [.i p524, .i p525]] (.i r) := by
  refine pcall_fn (T60_ok N) _ Try.func60 ok60 nt60 (by simp) fun _ => ?_
  have hS := T60_ok N
  have F := f0
  unfold ac60 rv60
  unfold D_putlogref07_where at h
  try simp only [gd_some, Option.bind_eq_some_iff] at h
  obtain ⟨o552, hL1, h⟩ := h
  refine go hS F ?_
  refine awp_cut (fun z : Int × Nat => ⟨[(5, .i z.1)], [], z.2⟩) (fun z => (.inl z.1 : Sum Int Int) = o552) (.x 0) ?_ ?_
  · refine awp_loop (fun y : Nat × Int × Int × Nat => ⟨[(0, .sl 2 false (l523.map e_ii) [.i 0, .i 0]), (3, .box (0, 1) 0), (5, .i y.2.1), (6, .i y.2.2.1)], [(.c (0, 1) 0, .i p524), (.c (0, 1) 1, .i p525)], y.2.2.2⟩) (fun y => D_putlogref07_where_L1 N l523 p524 p525 y.1 y.2.1 y.2.2.1 = some o552) (fun y => y.1) (N, 1, 0, 3) hL1 ?_ ?_
    · exact leF F
    · rintro ⟨n, out536, i537, c535⟩ hB2
      try simp only at hB2
      obtain _ | n := n
      · exact absurd hB2 (by simp [D_putlogref07_where_L1])
      rw [D_putlogref07_where_L1] at hB2
      refine go hS F ?_
      refine cb F (decide (i537 < (l523.length : Int))) (fun hc3 => ?_) (fun hc3 => ?_)
      · replace hB2 := cond_t hc3 hB2
        try simp only [gd_some, Option.bind_eq_some_iff] at hB2
        obtain ⟨⟨x538, x539⟩, hn539, hB2⟩ := hB2
        have hx539 : l523.getD i537.toNat (0, 0) = (x538, x539) := ixs hn539 _
        have hb539 := (nth_some hn539).1
        replace F := fc hx539 F
        try simp only [gd_some, Option.bind_eq_some_iff] at hB2
        obtain ⟨⟨r541, r542⟩, hr542, hB2⟩ := hB2
        replace F := fc hr542 F
        try simp only [gd_some, Option.bind_eq_some_iff] at hB2
        obtain ⟨r544, hr544, hB2⟩ := hB2
        replace F := fc hr544 F
        refine go hS F ?_
        refine cb F (decide (r544 < 0)) (fun hc4 => ?_) (fun hc4 => ?_)
        · replace hB2 := cond_t hc4 hB2
          obtain rfl := Option.some.inj hB2
          try simp only at h
          obtain rfl := Option.some.inj h
          refine go hS F ?_
          exact fin F
        · replace hB2 := cond_f hc4 hB2
          refine go hS F ?_
          refine cb F (decide (r544 = 0)) (fun hc5 => ?_) (fun hc5 => ?_)
          · replace hB2 := cond_t hc5 hB2
            try simp only [gd_some, Option.bind_eq_some_iff] at hB2
            obtain ⟨hv6, hB2⟩ := hB2
            simp only [I64] at hv6
            refine go hS F ?_
            exact backK_n (n, 0, i537 + 1, c535 + 1 + 1 + 1 + 1 + 1 + 1) hB2 (Nat.lt_succ_self _) (leF F)
          · replace hB2 := cond_f hc5 hB2
            try simp only [gd_some, Option.bind_eq_some_iff] at hB2
            obtain ⟨hv7, hB2⟩ := hB2
            simp only [I64] at hv7
            refine go hS F ?_
            exact backK_n (n, out536, i537 + 1, c535 + 1 + 1 + 1 + 1 + 1) hB2 (Nat.lt_succ_self _) (leF F)
      · replace hB2 := cond_f hc3 hB2
        refine go hS F ?_
        exact cutK_h (out536, c535 + 1) (Option.some.inj hB2) (leF F)
  · rintro ⟨out550, c549⟩ hz8
    subst hz8
    try simp only at h
    obtain rfl := Option.some.inj h
    refine go hS F ?_
    exact fin F
end

def s60 (N : Nat) : Spec
  | [.sl yl523 _ l523 _, .agg [.v (.int .i64 p524), .v (.int .i64 p525)]] => some (((yl523 = 2 ∨ l523 = []) ∧ l523 = (l523.map d_ii).map e_ii) ∧ (D_putlogref07_where N (l523.map d_ii) p524 p525).isSome = true, .i ((D_putlogref07_where N (l523.map d_ii) p524 p525).getD 0))
  | _ => none
theorem fok60 (N : Nat) : FOK Try.prog 60 (s60 N) := ⟨of60, by
  intro args vc r h hv
  unfold s60 at h
  split at h
  · cases h
    obtain ⟨⟨hy0, hr0⟩, hs⟩ := hv
    obtain ⟨r, hr⟩ := Option.isSome_iff_exists.1 hs
    have hk := D_putlogref07_where_ok N _ _ _ r hr
    simp only [hr, Option.getD_some]
    refine PCall.arg ?_ hk
    simp only [wkL, wk, and_true, true_and, Bool.false_eq_true, false_implies, implies_true]
    repeat' (first | exact True.intro | assumption | apply And.intro)
  · simp at h⟩

/-! putlog/putlogref07.Inside -/
def D_putlogref07_Inside (N : Nat) (l553 : List (Int × Int)) (p554 : Int) (p555 : Int) : Option Int :=
  (D_putlogref07_Valid N l553).bind fun r556 =>
  gd ((!(!r556)) = true → ((D_putlogref07_OnMap N p554 p555).isSome = true)) <|
  bif (!r556) || (!((D_putlogref07_OnMap N p554 p555).getD false)) then (
    some (-1))
  else (
    (D_putlogref07_where N l553 p554 p555).bind fun r558 =>
    some r558)

def T39 (N : Nat) : List (Nat × Spec) := [(37, s37 N), (31, s31 N), (60, s60 N)]
theorem T39_ok (N : Nat) : TabOK Try.prog (tabOf (T39 N)) := tab_cons (fok37 N) (tab_cons (fok31 N) (tab_cons (fok60 N) (tab_nil)))

section
attribute [local go_sem] T39 s37 s31 s60 e_ii de_ii rb_ii d_ii rowAt_zero rowAt_succ List.set_cons_succ List.isEmpty_map List.map_append List.map_eq_nil_iff ne_eq List.length_replicate takeMap dropMap List.length_set Option.isSome_some
theorem D_putlogref07_Inside_ok (N : Nat) (l553 : List (Int × Int)) (p554 : Int) (p555 : Int) (r : Int) (h : D_putlogref07_Inside N l553 p554 p555 = some r) : PCall Try.prog 39 [.sl 2 false (l553.map e_ii) [.i 0, .i 0], .agg [.i p554, .i p555]] (.i r) := by
  refine pcall_fn (T39_ok N) _ Try.func39 ok39 nt39 (by simp) fun _ => ?_
  have hS := T39_ok N
  have F := f0
  unfold ac39 rv39
  unfold D_putlogref07_Inside at h
  try simp only [gd_some, Option.bind_eq_some_iff] at h
  obtain ⟨r556, hr556, hv1, h⟩ := h
  replace F := fc hr556 F
  refine go hS F ?_
  refine cb F ((!r556) || (!((D_putlogref07_OnMap N p554 p555).getD false))) (fun hc2 => ?_) (fun hc2 => ?_)
  · replace h := cond_t hc2 h
    obtain rfl := Option.some.inj h
    refine go hS F ?_
    exact fin F
  · replace h := cond_f hc2 h
    try simp only [gd_some, Option.bind_eq_some_iff] at h
    obtain ⟨r558, hr558, h⟩ := h
    replace F := fc hr558 F
    obtain rfl := Option.some.inj h
    refine go hS F ?_
    exact fin F
end

def s39 (N : Nat) : Spec
  | [.sl yl553 _ l553 _, .agg [.v (.int .i64 p554), .v (.int .i64 p555)]] => some (((yl553 = 2 ∨ l553 = []) ∧ l553 = (l553.map d_ii).map e_ii) ∧ (D_putlogref07_Inside N (l553.map d_ii) p554 p555).isSome = true, .i ((D_putlogref07_Inside N (l553.map d_ii) p554 p555).getD 0))
  | _ => none
theorem fok39 (N : Nat) : FOK Try.prog 39 (s39 N) := ⟨of39, by
  intro args vc r h hv
  unfold s39 at h
  split at h
  · cases h
    obtain ⟨⟨hy0, hr0⟩, hs⟩ := hv
    obtain ⟨r, hr⟩ := Option.isSome_iff_exists.1 hs
    have hk := D_putlogref07_Inside_ok N _ _ _ r hr
    simp only [hr, Option.getD_some]
    refine PCall.arg ?_ hk
    simp only [wkL, wk, and_true, true_and, Bool.false_eq_true, false_implies, implies_true]
    repeat' (first | exact True.intro | assumption | apply And.intro)
  · simp at h⟩

/-! putlog/putlogref07.Area2 -/
def D_putlogref07_Area2_L1 (N : Nat) (l560 : List (Int × Int)) : Nat → Int → Int → Option Int
  | 0, _, _ => none
  | n + 1, n571, i572 =>
    bif decide (i572 < (l560.length : Int)) then (
      (nth l560 i572).bind fun (x573, x574) =>
      (D_putlogref07_end N l560 i572).bind fun (r576, r577) =>
      gd (I64 (x573 * r577)) <|
      gd (I64 (n571 + (x573 * r577))) <|
      gd (I64 (x574 * r576)) <|
      gd (I64 ((n571 + (x573 * r577)) - (x574 * r576))) <|
      gd (I64 (i572 + 1)) <|
      D_putlogref07_Area2_L1 N l560 n ((n571 + (x573 * r577)) - (x574 * r576)) (i572 + 1))
    else (
      some n571)

def D_putlogref07_Area2 (N : Nat) (l560 : List (Int × Int)) : Option Int :=
  (D_putlogref07_Valid N l560).bind fun r561 =>
  bif !r561 then (
    some 0)
  else (
    (D_putlogref07_Area2_L1 N l560 N 0 0).bind fun n583 =>
    some n583)

def T38 (N : Nat) : List (Nat × Spec) := [(37, s37 N), (59, s59 N)]
theorem T38_ok (N : Nat) : TabOK Try.prog (tabOf (T38 N)) := tab_cons (fok37 N) (tab_cons (fok59 N) (tab_nil))

section
attribute [local go_sem] T38 s37 s59 e_ii de_ii rb_ii d_ii rowAt_zero rowAt_succ List.set_cons_succ List.isEmpty_map List.map_append List.map_eq_nil_iff ne_eq List.length_replicate takeMap dropMap List.length_set Option.isSome_some
theorem D_putlogref07_Area2_ok (N : Nat) (l560 : List (Int × Int)) (r : Int) (h : D_putlogref07_Area2 N l560 = some r) : PCall Try.prog 38 [.sl 2 false (l560.map e_ii) [.i 0, .i 0]] (.i r) := by
  refine pcall_fn (T38_ok N) _ Try.func38 ok38 nt38 (by simp) fun _ => ?_
  have hS := T38_ok N
  have F := f0
  unfold ac38 rv38
  unfold D_putlogref07_Area2 at h
  try simp only [gd_some, Option.bind_eq_some_iff] at h
  obtain ⟨r561, hr561, h⟩ := h
  replace F := fc hr561 F
  refine go hS F ?_
  refine cb F (!r561) (fun hc1 => ?_) (fun hc1 => ?_)
  · replace h := cond_t hc1 h
    obtain rfl := Option.some.inj h
    refine go hS F ?_
    exact fin F
  · replace h := cond_f hc1 h
    try simp only [gd_some, Option.bind_eq_some_iff] at h
    obtain ⟨o584, hL2, h⟩ := h
    refine go hS F ?_
    refine awp_cut (fun z : Int × Nat => ⟨[(3, .i z.1)], [], z.2⟩) (fun z => (z.1 : Int) = o584) (.x 0) ?_ ?_
    · refine awp_loop (fun y : Nat × Int × Int × Nat => ⟨[(0, .sl 2 false (l560.map e_ii) [.i 0, .i 0]), (3, .i y.2.1), (4, .i y.2.2.1)], [], y.2.2.2⟩) (fun y => D_putlogref07_Area2_L1 N l560 y.1 y.2.1 y.2.2.1 = some o584) (fun y => y.1) (N, 0, 0, 4) hL2 ?_ ?_
      · exact leF F
      · rintro ⟨n, n571, i572, c570⟩ hB3
        try simp only at hB3
        obtain _ | n := n
        · exact absurd hB3 (by simp [D_putlogref07_Area2_L1])
        rw [D_putlogref07_Area2_L1] at hB3
        refine go hS F ?_
        refine cb F (decide (i572 < (l560.length : Int))) (fun hc4 => ?_) (fun hc4 => ?_)
        · replace hB3 := cond_t hc4 hB3
          try simp only [gd_some, Option.bind_eq_some_iff] at hB3
          obtain ⟨⟨x573, x574⟩, hn574, hB3⟩ := hB3
          have hx574 : l560.getD i572.toNat (0, 0) = (x573, x574) := ixs hn574 _
          have hb574 := (nth_some hn574).1
          replace F := fc hx574 F
          try simp only [gd_some, Option.bind_eq_some_iff] at hB3
          obtain ⟨⟨r576, r577⟩, hr577, hB3⟩ := hB3
          replace F := fc hr577 F
          try simp only [gd_some, Option.bind_eq_some_iff] at hB3
          obtain ⟨hv5, hv6, hv7, hv8, hv9, hB3⟩ := hB3
          simp only [I64] at hv5
          simp only [I64] at hv6
          simp only [I64] at hv7
          simp only [I64] at hv8
          simp only [I64] at hv9
          refine go hS F ?_
          exact backK_n (n, (n571 + (x573 * r577)) - (x574 * r576), i572 + 1, c570 + 1 + 1 + 1 + 1 + 1) hB3 (Nat.lt_succ_self _) (leF F)
        · replace hB3 := cond_f hc4 hB3
          refine go hS F ?_
          exact cutK_h (n571, c570 + 1) (Option.some.inj hB3) (leF F)
    · rintro ⟨n583, c582⟩ hz10
      subst hz10
      try simp only at h
      obtain rfl := Option.some.inj h
      refine go hS F ?_
      exact fin F
end

def s38 (N : Nat) : Spec
  | [.sl yl560 _ l560 _] => some (((yl560 = 2 ∨ l560 = []) ∧ l560 = (l560.map d_ii).map e_ii) ∧ (D_putlogref07_Area2 N (l560.map d_ii)).isSome = true, .i ((D_putlogref07_Area2 N (l560.map d_ii)).getD 0))
  | _ => none
theorem fok38 (N : Nat) : FOK Try.prog 38 (s38 N) := ⟨of38, by
  intro args vc r h hv
  unfold s38 at h
  split at h
  · cases h
    obtain ⟨⟨hy0, hr0⟩, hs⟩ := hv
    obtain ⟨r, hr⟩ := Option.isSome_iff_exists.1 hs
    have hk := D_putlogref07_Area2_ok N _ r hr
    simp only [hr, Option.getD_some]
    refine PCall.arg ?_ hk
    simp only [wkL, wk, and_true, true_and, Bool.false_eq_true, false_implies, implies_true]
    repeat' (first | exact True.intro | assumption | apply And.intro)
  · simp at h⟩

/-! putlog/putlogref07.Moments -/
def D_putlogref07_Moments_L1 (N : Nat) (l585 : List (Int × Int)) : Nat → Int → Int → Int → Option (Int × Int)
  | 0, _, _, _ => none
  | n + 1, x596, y597, i598 =>
    bif decide (i598 < (l585.length : Int)) then (
      (nth l585 i598).bind fun (x599, x600) =>
      (D_putlogref07_end N l585 i598).bind fun (r602, r603) =>
      gd (I64 (x599 + r602)) <|
      gd (I64 (x599 * r603)) <|
      gd (I64 (x600 * r602)) <|
      gd (I64 ((x599 * r603) - (x600 * r602))) <|
      gd (I64 ((x599 + r602) * ((x599 * r603) - (x600 * r602)))) <|
      gd (I64 (x596 + ((x599 + r602) * ((x599 * r603) - (x600 * r602))))) <|
      gd (I64 (x600 + r603)) <|
      gd (I64 (x599 * r603)) <|
      gd (I64 (x600 * r602)) <|
      gd (I64 ((x599 * r603) - (x600 * r602))) <|
      gd (I64 ((x600 + r603) * ((x599 * r603) - (x600 * r602)))) <|
      gd (I64 (y597 + ((x600 + r603) * ((x599 * r603) - (x600 * r602))))) <|
      gd (I64 (i598 + 1)) <|
      D_putlogref07_Moments_L1 N l585 n (x596 + ((x599 + r602) * ((x599 * r603) - (x600 * r602)))) (y597 + ((x600 + r603) * ((x599 * r603) - (x600 * r602)))) (i598 + 1))
    else (
      some (x596, y597))

def D_putlogref07_Moments (N : Nat) (l585 : List (Int × Int)) : Option (Int × Int) :=
  (D_putlogref07_Valid N l585).bind fun r586 =>
  bif !r586 then (
    some (0, 0))
  else (
    (D_putlogref07_Moments_L1 N l585 N 0 0 0).bind fun (x610, y611) =>
    some (x610, y611))

def T35 (N : Nat) : List (Nat × Spec) := [(37, s37 N), (59, s59 N)]
theorem T35_ok (N : Nat) : TabOK Try.prog (tabOf (T35 N)) := tab_cons (fok37 N) (tab_cons (fok59 N) (tab_nil))

section
attribute [local go_sem] T35 s37 s59 e_ii de_ii rb_ii d_ii rowAt_zero rowAt_succ List.set_cons_succ List.isEmpty_map List.map_append List.map_eq_nil_iff ne_eq List.length_replicate takeMap dropMap List.length_set Option.isSome_some
theorem D_putlogref07_Moments_ok (N : Nat) (l585 : List (Int × Int)) (r : Int × Int) (h : D_putlogref07_Moments N l585 = some r) : PCall Try.prog 35 [.sl 2 false (l585.map e_ii) [.i 0, .i 0]] (.tup [.i r.1, .i r.2]) := by
  refine pcall_fn (T35_ok N) _ Try.func35 ok35 nt35 (by simp) fun _ => ?_
  have hS := T35_ok N
  have F := f0
  unfold ac35 rv35
  unfold D_putlogref07_Moments at h
  try simp only [gd_some, Option.bind_eq_some_iff] at h
  obtain ⟨r586, hr586, h⟩ := h
  replace F := fc hr586 F
  refine go hS F ?_
  refine cb F (!r586) (fun hc1 => ?_) (fun hc1 => ?_)
  · replace h := cond_t hc1 h
    obtain rfl := Option.some.inj h
    refine go hS F ?_
    exact fin F
  · replace h := cond_f hc1 h
    try simp only [gd_some, Option.bind_eq_some_iff] at h
    obtain ⟨o612, hL2, h⟩ := h
    refine go hS F ?_
    refine awp_cut (fun z : Int × Int × Nat => ⟨[(4, .i z.1), (5, .i z.2.1)], [], z.2.2⟩) (fun z => ((z.1, z.2.1) : Int × Int) = o612) (.x 0) ?_ ?_
    · refine awp_loop (fun y : Nat × Int × Int × Int × Nat => ⟨[(0, .sl 2 false (l585.map e_ii) [.i 0, .i 0]), (4, .i y.2.1), (5, .i y.2.2.1), (6, .i y.2.2.2.1)], [], y.2.2.2.2⟩) (fun y => D_putlogref07_Moments_L1 N l585 y.1 y.2.1 y.2.2.1 y.2.2.2.1 = some o612) (fun y => y.1) (N, 0, 0, 0, 5) hL2 ?_ ?_
      · exact leF F
      · rintro ⟨n, x596, y597, i598, c595⟩ hB3
        try simp only at hB3
        obtain _ | n := n
        · exact absurd hB3 (by simp [D_putlogref07_Moments_L1])
        rw [D_putlogref07_Moments_L1] at hB3
        refine go hS F ?_
        refine cb F (decide (i598 < (l585.length : Int))) (fun hc4 => ?_) (fun hc4 => ?_)
        · replace hB3 := cond_t hc4 hB3
          try simp only [gd_some, Option.bind_eq_some_iff] at hB3
          obtain ⟨⟨x599, x600⟩, hn600, hB3⟩ := hB3
          have hx600 : l585.getD i598.toNat (0, 0) = (x599, x600) := ixs hn600 _
          have hb600 := (nth_some hn600).1
          replace F := fc hx600 F
          try simp only [gd_some, Option.bind_eq_some_iff] at hB3
          obtain ⟨⟨r602, r603⟩, hr603, hB3⟩ := hB3
          replace F := fc hr603 F
          try simp only [gd_some, Option.bind_eq_some_iff] at hB3
          obtain ⟨hv5, hv6, hv7, hv8, hv9, hv10, hv11, hv12, hv13, hv14, hv15, hv16, hv17, hB3⟩ := hB3
          simp only [I64] at hv5
          simp only [I64] at hv6
          simp only [I64] at hv7
          simp only [I64] at hv8
          simp only [I64] at hv9
          simp only [I64] at hv10
          simp only [I64] at hv11
          simp only [I64] at hv12
          simp only [I64] at hv13
          simp only [I64] at hv14
          simp only [I64] at hv15
          simp only [I64] at hv16
          simp only [I64] at hv17
          refine go hS F ?_
          exact backK_n (n, x596 + ((x599 + r602) * ((x599 * r603) - (x600 * r602))), y597 + ((x600 + r603) * ((x599 * r603) - (x600 * r602))), i598 + 1, c595 + 1 + 1 + 1 + 1 + 1 + 1) hB3 (Nat.lt_succ_self _) (leF F)
        · replace hB3 := cond_f hc4 hB3
          refine go hS F ?_
          exact cutK_h (x596, y597, c595 + 1) (Option.some.inj hB3) (leF F)
    · rintro ⟨x610, y611, c609⟩ hz18
      subst hz18
      try simp only at h
      obtain rfl := Option.some.inj h
      refine go hS F ?_
      exact fin F
end

def s35 (N : Nat) : Spec
  | [.sl yl585 _ l585 _] => some (((yl585 = 2 ∨ l585 = []) ∧ l585 = (l585.map d_ii).map e_ii) ∧ (D_putlogref07_Moments N (l585.map d_ii)).isSome = true, .tup [.i (((D_putlogref07_Moments N (l585.map d_ii)).getD (0, 0)).1), .i (((D_putlogref07_Moments N (l585.map d_ii)).getD (0, 0)).2)])
  | _ => none
theorem fok35 (N : Nat) : FOK Try.prog 35 (s35 N) := ⟨of35, by
  intro args vc r h hv
  unfold s35 at h
  split at h
  · cases h
    obtain ⟨⟨hy0, hr0⟩, hs⟩ := hv
    obtain ⟨r, hr⟩ := Option.isSome_iff_exists.1 hs
    have hk := D_putlogref07_Moments_ok N _ r hr
    simp only [hr, Option.getD_some]
    refine PCall.arg ?_ hk
    simp only [wkL, wk, and_true, true_and, Bool.false_eq_true, false_implies, implies_true]
    repeat' (first | exact True.intro | assumption | apply And.intro)
  · simp at h⟩

/-! putlog/putlogref07.Cell -/
def D_putlogref07_Cell_L2 (N : Nat) (l613 : List (Int × Int)) : Nat → Int → (List (Int × Int)) → Option ((List (Int × Int)))
  | 0, _, _ => none
  | n + 1, i628, l629 =>
    bif decide (i628 < (l613.length : Int)) then (
      (nth l613 i628).bind fun (x630, x631) =>
      gd (I64 (2 * x630)) <|
      gd (I64 (2 * x631)) <|
      gd ((l629.length + 1) * 16 ≤ 140737488355328) <|
      gd (I64 (i628 + 1)) <|
      D_putlogref07_Cell_L2 N l613 n (i628 + 1) (l629 ++ [(2 * x630, 2 * x631)]))
    else (
      some l629)

def D_putlogref07_Cell (N : Nat) (l613 : List (Int × Int)) (x614 : Int) (y615 : Int) : Option Int :=
  (D_putlogref07_Valid N l613).bind fun r616 =>
  bif ((((!r616) || (decide (x614 < 0))) || (decide (40 ≤ x614))) || (decide (y615 < 0))) || (decide (40 ≤ y615)) then (
    some (-1))
  else (
    (D_putlogref07_Cell_L2 N l613 N 0 []).bind fun l637 =>
    gd (I64 (2 * x614)) <|
    gd (I64 ((2 * x614) + 1)) <|
    gd (I64 (2 * y615)) <|
    gd (I64 ((2 * y615) + 1)) <|
    (D_putlogref07_where N l637 ((2 * x614) + 1) ((2 * y615) + 1)).bind fun r639 =>
    some r639)

def T40 (N : Nat) : List (Nat × Spec) := [(37, s37 N), (60, s60 N)]
theorem T40_ok (N : Nat) : TabOK Try.prog (tabOf (T40 N)) := tab_cons (fok37 N) (tab_cons (fok60 N) (tab_nil))

section
attribute [local go_sem] T40 s37 s60 e_ii de_ii rb_ii d_ii rowAt_zero rowAt_succ List.set_cons_succ List.isEmpty_map List.map_append List.map_eq_nil_iff ne_eq List.length_replicate takeMap dropMap List.length_set Option.isSome_some
theorem D_putlogref07_Cell_ok (N : Nat) (l613 : List (Int × Int)) (x614 : Int) (y615 : Int) (r : Int) (h : D_putlogref07_Cell N l613 x614 y615 = some r) : PCall Try.prog 40 [.sl 2 false (l613.map e_ii) [.i 0, .i 0], .i x614, .i y615] (.i r) := by
  refine pcall_fn (T40_ok N) _ Try.func40 ok40 nt40 (by simp) fun _ => ?_
  have hS := T40_ok N
  have F := f0
  unfold ac40 rv40
  unfold D_putlogref07_Cell at h
  try simp only [gd_some, Option.bind_eq_some_iff] at h
  obtain ⟨r616, hr616, h⟩ := h
  replace F := fc hr616 F
  refine go hS F ?_
  refine cb F (((((!r616) || (decide (x614 < 0))) || (decide (40 ≤ x614))) || (decide (y615 < 0))) || (decide (40 ≤ y615))) (fun hc1 => ?_) (fun hc1 => ?_)
  · replace h := cond_t hc1 h
    obtain rfl := Option.some.inj h
    refine go hS F ?_
    exact fin F
  · replace h := cond_f hc1 h
    refine go hS F ?_
    refine awp_claimEk 1000001 7 2 [.i 0, .i 0] (by show (7 : Nat) < 59; omega) (by omega) (by simp only [go_sem, seval, F] <;> eq_refl) ?_
    try simp only [gd_some, Option.bind_eq_some_iff] at h
    obtain ⟨o638, hL2, h⟩ := h
    refine go hS F ?_
    refine awp_cut (fun z : (List (Int × Int)) × Nat => ⟨[(1, .i x614), (2, .i y615), (7, .own (1000001, 5) z.1.length)], [(.a (1000001, 5), .sl 2 true (z.1.map e_ii) [.i 0, .i 0])], z.2⟩) (fun z => (z.1 : (List (Int × Int))) = o638) (.x 0) ?_ ?_
    · refine awp_loop (fun y : Nat × Int × (List (Int × Int)) × Nat => ⟨[(0, .sl 2 false (l613.map e_ii) [.i 0, .i 0]), (1, .i x614), (2, .i y615), (7, .own (1000001, 5) y.2.2.1.length), (8, .i y.2.1)], [(.a (1000001, 5), .sl 2 true (y.2.2.1.map e_ii) [.i 0, .i 0])], y.2.2.2⟩) (fun y => D_putlogref07_Cell_L2 N l613 y.1 y.2.1 y.2.2.1 = some o638) (fun y => y.1) (N, 0, [], 5) hL2 ?_ ?_
      · exact leF F
      · rintro ⟨n, i628, l629, c627⟩ hB3
        try simp only at hB3
        obtain _ | n := n
        · exact absurd hB3 (by simp [D_putlogref07_Cell_L2])
        rw [D_putlogref07_Cell_L2] at hB3
        refine go hS F ?_
        refine cb F (decide (i628 < (l613.length : Int))) (fun hc4 => ?_) (fun hc4 => ?_)
        · replace hB3 := cond_t hc4 hB3
          try simp only [gd_some, Option.bind_eq_some_iff] at hB3
          obtain ⟨⟨x630, x631⟩, hn631, hB3⟩ := hB3
          have hx631 : l613.getD i628.toNat (0, 0) = (x630, x631) := ixs hn631 _
          have hb631 := (nth_some hn631).1
          replace F := fc hx631 F
          try simp only [gd_some, Option.bind_eq_some_iff] at hB3
          obtain ⟨hv5, hv6, hv7, hv8, hB3⟩ := hB3
          simp only [I64] at hv5
          simp only [I64] at hv6
          simp only [I64] at hv8
          refine go hS F ?_
          exact backK_n (n, i628 + 1, l629 ++ [(2 * x630, 2 * x631)], c627 + 1 + 1 + 1) hB3 (Nat.lt_succ_self _) (leF F)
        · replace hB3 := cond_f hc4 hB3
          refine go hS F ?_
          exact cutK_h (l629, c627 + 1) (Option.some.inj hB3) (leF F)
    · rintro ⟨l637, c636⟩ hz9
      subst hz9
      try simp only at h
      try simp only [gd_some, Option.bind_eq_some_iff] at h
      obtain ⟨hv10, hv11, hv12, hv13, r639, hr639, h⟩ := h
      simp only [I64] at hv10
      simp only [I64] at hv11
      simp only [I64] at hv12
      simp only [I64] at hv13
      replace F := fc hr639 F
      obtain rfl := Option.some.inj h
      refine go hS F ?_
      exact fin F
end

def s40 (N : Nat) : Spec
  | [.sl yl613 _ l613 _, .v (.int .i64 x614), .v (.int .i64 y615)] => some (((yl613 = 2 ∨ l613 = []) ∧ l613 = (l613.map d_ii).map e_ii) ∧ (D_putlogref07_Cell N (l613.map d_ii) x614 y615).isSome = true, .i ((D_putlogref07_Cell N (l613.map d_ii) x614 y615).getD 0))
  | _ => none
theorem fok40 (N : Nat) : FOK Try.prog 40 (s40 N) := ⟨of40, by
  intro args vc r h hv
  unfold s40 at h
  split at h
  · cases h
    obtain ⟨⟨hy0, hr0⟩, hs⟩ := hv
    obtain ⟨r, hr⟩ := Option.isSome_iff_exists.1 hs
    have hk := D_putlogref07_Cell_ok N _ _ _ r hr
    simp only [hr, Option.getD_some]
    refine PCall.arg ?_ hk
    simp only [wkL, wk, and_true, true_and, Bool.false_eq_true, false_implies, implies_true]
    repeat' (first | exact True.intro | assumption | apply And.intro)
  · simp at h⟩

/-! putlog/putlogref07.Lattice -/
def D_putlogref07_Lattice_L3 (N : Nat) (l641 : List (Int × Int)) (x665 : Int) : Nat → Int → Int → Int → Option (Int × Int)
  | 0, _, _, _ => none
  | n + 1, inner670, boundary671, y672 =>
    bif decide (y672 ≤ 40) then (
      (D_putlogref07_where N l641 x665 y672).bind fun r673 =>
      bif decide (r673 = 1) then (
        gd (I64 (inner670 + 1)) <|
        gd (I64 (y672 + 1)) <|
        D_putlogref07_Lattice_L3 N l641 x665 n (inner670 + 1) boundary671 (y672 + 1))
      else (
        bif decide (r673 = 0) then (
          gd (I64 (boundary671 + 1)) <|
          gd (I64 (y672 + 1)) <|
          D_putlogref07_Lattice_L3 N l641 x665 n inner670 (boundary671 + 1) (y672 + 1))
        else (
          gd (I64 (y672 + 1)) <|
          D_putlogref07_Lattice_L3 N l641 x665 n inner670 boundary671 (y672 + 1))))
    else (
      some (inner670, boundary671))

def D_putlogref07_Lattice_L1 (N : Nat) (l641 : List (Int × Int)) : Nat → Int → Int → Int → Option (Int × Int)
  | 0, _, _, _ => none
  | n + 1, inner663, boundary664, x665 =>
    bif decide (x665 ≤ 40) then (
      (D_putlogref07_Lattice_L3 N l641 x665 N inner663 boundary664 0).bind fun (inner680, boundary681) =>
      gd (I64 (x665 + 1)) <|
      D_putlogref07_Lattice_L1 N l641 n inner680 boundary681 (x665 + 1))
    else (
      some (inner663, boundary664))

def D_putlogref07_Lattice (N : Nat) (l641 : List (Int × Int)) : Option (Int × Int) :=
  (D_putlogref07_Valid N l641).bind fun r642 =>
  bif !r642 then (
    some (0, 0))
  else (
    (D_putlogref07_Lattice_L1 N l641 N 0 0 0).bind fun (inner688, boundary689) =>
    some (inner688, boundary689))

def T36 (N : Nat) : List (Nat × Spec) := [(37, s37 N), (60, s60 N)]
theorem T36_ok (N : Nat) : TabOK Try.prog (tabOf (T36 N)) := tab_cons (fok37 N) (tab_cons (fok60 N) (tab_nil))

section
attribute [local go_sem] T36 s37 s60 e_ii de_ii rb_ii d_ii rowAt_zero rowAt_succ List.set_cons_succ List.isEmpty_map List.map_append List.map_eq_nil_iff ne_eq List.length_replicate takeMap dropMap List.length_set Option.isSome_some
theorem D_putlogref07_Lattice_ok (N : Nat) (l641 : List (Int × Int)) (r : Int × Int) (h : D_putlogref07_Lattice N l641 = some r) : PCall Try.prog 36 [.sl 2 false (l641.map e_ii) [.i 0, .i 0]] (.tup [.i r.1, .i r.2]) := by
  refine pcall_fn (T36_ok N) _ Try.func36 ok36 nt36 (by simp) fun _ => ?_
  have hS := T36_ok N
  have F := f0
  unfold ac36 rv36
  unfold D_putlogref07_Lattice at h
  try simp only [gd_some, Option.bind_eq_some_iff] at h
  obtain ⟨r642, hr642, h⟩ := h
  replace F := fc hr642 F
  refine go hS F ?_
  refine cb F (!r642) (fun hc1 => ?_) (fun hc1 => ?_)
  · replace h := cond_t hc1 h
    obtain rfl := Option.some.inj h
    refine go hS F ?_
    exact fin F
  · replace h := cond_f hc1 h
    try simp only [gd_some, Option.bind_eq_some_iff] at h
    obtain ⟨o690, hL2, h⟩ := h
    refine go hS F ?_
    refine awp_cut (fun z : Int × Int × Nat => ⟨[(4, .i z.1), (5, .i z.2.1)], [], z.2.2⟩) (fun z => ((z.1, z.2.1) : Int × Int) = o690) (.x 0) ?_ ?_
    · refine awp_loop (fun y : Nat × Int × Int × Int × Nat => ⟨[(0, .sl 2 false (l641.map e_ii) [.i 0, .i 0]), (4, .i y.2.1), (5, .i y.2.2.1), (6, .i y.2.2.2.1)], [], y.2.2.2.2⟩) (fun y => D_putlogref07_Lattice_L1 N l641 y.1 y.2.1 y.2.2.1 y.2.2.2.1 = some o690) (fun y => y.1) (N, 0, 0, 0, 5) hL2 ?_ ?_
      · exact leF F
      · rintro ⟨n, inner663, boundary664, x665, c662⟩ hB3
        try simp only at hB3
        obtain _ | n := n
        · exact absurd hB3 (by simp [D_putlogref07_Lattice_L1])
        rw [D_putlogref07_Lattice_L1] at hB3
        refine go hS F ?_
        refine cb F (decide (x665 ≤ 40)) (fun hc4 => ?_) (fun hc4 => ?_)
        · replace hB3 := cond_t hc4 hB3
          try simp only [gd_some, Option.bind_eq_some_iff] at hB3
          obtain ⟨o682, hL5, hB3⟩ := hB3
          refine go hS F ?_
          refine awp_cut (fun z : Int × Int × Nat => ⟨[(0, .sl 2 false (l641.map e_ii) [.i 0, .i 0]), (4, .i z.1), (5, .i z.2.1), (6, .i x665)], [], z.2.2⟩) (fun z => ((z.1, z.2.1) : Int × Int) = o682) (.x 2) ?_ ?_
          · refine awp_loop (fun y : Nat × Int × Int × Int × Nat => ⟨[(0, .sl 2 false (l641.map e_ii) [.i 0, .i 0]), (4, .i y.2.1), (5, .i y.2.2.1), (6, .i x665), (7, .i y.2.2.2.1)], [], y.2.2.2.2⟩) (fun y => D_putlogref07_Lattice_L3 N l641 x665 y.1 y.2.1 y.2.2.1 y.2.2.2.1 = some o682) (fun y => y.1) (N, inner663, boundary664, 0, c662 + 1 + 1) hL5 ?_ ?_
            · exact leF F
            · rintro ⟨n, inner670, boundary671, y672, c669⟩ hB6
              try simp only at hB6
              obtain _ | n := n
              · exact absurd hB6 (by simp [D_putlogref07_Lattice_L3])
              rw [D_putlogref07_Lattice_L3] at hB6
              refine go hS F ?_
              refine cb F (decide (y672 ≤ 40)) (fun hc7 => ?_) (fun hc7 => ?_)
              · replace hB6 := cond_t hc7 hB6
                try simp only [gd_some, Option.bind_eq_some_iff] at hB6
                obtain ⟨r673, hr673, hB6⟩ := hB6
                replace F := fc hr673 F
                refine go hS F ?_
                refine cb F (decide (r673 = 1)) (fun hc8 => ?_) (fun hc8 => ?_)
                · replace hB6 := cond_t hc8 hB6
                  try simp only [gd_some, Option.bind_eq_some_iff] at hB6
                  obtain ⟨hv9, hv10, hB6⟩ := hB6
                  simp only [I64] at hv9
                  simp only [I64] at hv10
                  refine go hS F ?_
                  exact backK_n (n, inner670 + 1, boundary671, y672 + 1, c669 + 1 + 1 + 1 + 1 + 1) hB6 (Nat.lt_succ_self _) (leF F)
                · replace hB6 := cond_f hc8 hB6
                  refine go hS F ?_
                  refine cb F (decide (r673 = 0)) (fun hc11 => ?_) (fun hc11 => ?_)
                  · replace hB6 := cond_t hc11 hB6
                    try simp only [gd_some, Option.bind_eq_some_iff] at hB6
                    obtain ⟨hv12, hv13, hB6⟩ := hB6
                    simp only [I64] at hv12
                    simp only [I64] at hv13
                    refine go hS F ?_
                    exact backK_n (n, inner670, boundary671 + 1, y672 + 1, c669 + 1 + 1 + 1 + 1 + 1 + 1) hB6 (Nat.lt_succ_self _) (leF F)
                  · replace hB6 := cond_f hc11 hB6
                    try simp only [gd_some, Option.bind_eq_some_iff] at hB6
                    obtain ⟨hv14, hB6⟩ := hB6
                    simp only [I64] at hv14
                    refine go hS F ?_
                    exact backK_n (n, inner670, boundary671, y672 + 1, c669 + 1 + 1 + 1 + 1 + 1) hB6 (Nat.lt_succ_self _) (leF F)
              · replace hB6 := cond_f hc7 hB6
                refine go hS F ?_
                exact cutK_h (inner670, boundary671, c669 + 1) (Option.some.inj hB6) (leF F)
          · rintro ⟨inner680, boundary681, c679⟩ hz15
            subst hz15
            try simp only at hB3
            try simp only [gd_some, Option.bind_eq_some_iff] at hB3
            obtain ⟨hv16, hB3⟩ := hB3
            simp only [I64] at hv16
            refine go hS F ?_
            exact backK_n (n, inner680, boundary681, x665 + 1, c679 + 1) hB3 (Nat.lt_succ_self _) (leF F)
        · replace hB3 := cond_f hc4 hB3
          refine go hS F ?_
          exact cutK_h (inner663, boundary664, c662 + 1) (Option.some.inj hB3) (leF F)
    · rintro ⟨inner688, boundary689, c687⟩ hz17
      subst hz17
      try simp only at h
      obtain rfl := Option.some.inj h
      refine go hS F ?_
      exact fin F
end

def s36 (N : Nat) : Spec
  | [.sl yl641 _ l641 _] => some (((yl641 = 2 ∨ l641 = []) ∧ l641 = (l641.map d_ii).map e_ii) ∧ (D_putlogref07_Lattice N (l641.map d_ii)).isSome = true, .tup [.i (((D_putlogref07_Lattice N (l641.map d_ii)).getD (0, 0)).1), .i (((D_putlogref07_Lattice N (l641.map d_ii)).getD (0, 0)).2)])
  | _ => none
theorem fok36 (N : Nat) : FOK Try.prog 36 (s36 N) := ⟨of36, by
  intro args vc r h hv
  unfold s36 at h
  split at h
  · cases h
    obtain ⟨⟨hy0, hr0⟩, hs⟩ := hv
    obtain ⟨r, hr⟩ := Option.isSome_iff_exists.1 hs
    have hk := D_putlogref07_Lattice_ok N _ r hr
    simp only [hr, Option.getD_some]
    refine PCall.arg ?_ hk
    simp only [wkL, wk, and_true, true_and, Bool.false_eq_true, false_implies, implies_true]
    repeat' (first | exact True.intro | assumption | apply And.intro)
  · simp at h⟩

/-! putlog/putlogref07.Move -/
def D_putlogref07_Move_L2 (N : Nat) (l691 : List (Int × Int)) (dx692 : Int) (dy693 : Int) : Nat → Int → (List (Int × Int)) → Option ((List (Int × Int)))
  | 0, _, _ => none
  | n + 1, i706, l707 =>
    bif decide (i706 < (l691.length : Int)) then (
      (nth l691 i706).bind fun (x708, x709) =>
      gd (I64 (x708 + dx692)) <|
      gd (I64 (x709 + dy693)) <|
      gd ((l707.length + 1) * 16 ≤ 140737488355328) <|
      gd (I64 (i706 + 1)) <|
      D_putlogref07_Move_L2 N l691 dx692 dy693 n (i706 + 1) (l707 ++ [(x708 + dx692, x709 + dy693)]))
    else (
      some l707)

def D_putlogref07_Move (N : Nat) (l691 : List (Int × Int)) (dx692 : Int) (dy693 : Int) : Option ((List (Int × Int)) × Int) :=
  (D_putlogref07_Valid N l691).bind fun r694 =>
  bif ((((!r694) || (decide (dx692 < (-40)))) || (decide (40 < dx692))) || (decide (dy693 < (-40)))) || (decide (40 < dy693)) then (
    some ([], 70))
  else (
    (D_putlogref07_Move_L2 N l691 dx692 dy693 N 0 []).bind fun l715 =>
    (D_putlogref07_Valid N l715).bind fun r717 =>
    bif !r717 then (
      some ([], 70))
    else (
      some (l715, 0)))

def T41 (N : Nat) : List (Nat × Spec) := [(37, s37 N)]
theorem T41_ok (N : Nat) : TabOK Try.prog (tabOf (T41 N)) := tab_cons (fok37 N) (tab_nil)

section
attribute [local go_sem] T41 s37 e_ii de_ii rb_ii d_ii rowAt_zero rowAt_succ List.set_cons_succ List.isEmpty_map List.map_append List.map_eq_nil_iff ne_eq List.length_replicate takeMap dropMap List.length_set Option.isSome_some
theorem D_putlogref07_Move_ok (N : Nat) (l691 : List (Int × Int)) (dx692 : Int) (dy693 : Int) (r : (List (Int × Int)) × Int) (h : D_putlogref07_Move N l691 dx692 dy693 = some r) : PCall Try.prog 41 [.sl 2 false (l691.map e_ii) [.i 0, .i 0], .i dx692, .i dy693] (.tup [.sl 2 false (r.1.map e_ii) [.i 0, .i 0], .i r.2]) := by
  refine pcall_fn (T41_ok N) _ Try.func41 ok41 nt41 (by simp) fun _ => ?_
  have hS := T41_ok N
  have F := f0
  unfold ac41 rv41
  unfold D_putlogref07_Move at h
  try simp only [gd_some, Option.bind_eq_some_iff] at h
  obtain ⟨r694, hr694, h⟩ := h
  replace F := fc hr694 F
  refine go hS F ?_
  refine cb F (((((!r694) || (decide (dx692 < (-40)))) || (decide (40 < dx692))) || (decide (dy693 < (-40)))) || (decide (40 < dy693))) (fun hc1 => ?_) (fun hc1 => ?_)
  · replace h := cond_t hc1 h
    obtain rfl := Option.some.inj h
    refine go hS F ?_
    exact fin F
  · replace h := cond_f hc1 h
    refine go hS F ?_
    refine awp_claimEk 1000001 8 2 [.i 0, .i 0] (by show (8 : Nat) < 57; omega) (by omega) (by simp only [go_sem, seval, F] <;> eq_refl) ?_
    try simp only [gd_some, Option.bind_eq_some_iff] at h
    obtain ⟨o716, hL2, h⟩ := h
    refine go hS F ?_
    refine awp_cut (fun z : (List (Int × Int)) × Nat => ⟨[(8, .own (1000001, 5) z.1.length)], [(.a (1000001, 5), .sl 2 true (z.1.map e_ii) [.i 0, .i 0])], z.2⟩) (fun z => (z.1 : (List (Int × Int))) = o716) (.x 0) ?_ ?_
    · refine awp_loop (fun y : Nat × Int × (List (Int × Int)) × Nat => ⟨[(0, .sl 2 false (l691.map e_ii) [.i 0, .i 0]), (1, .i dx692), (2, .i dy693), (8, .own (1000001, 5) y.2.2.1.length), (9, .i y.2.1)], [(.a (1000001, 5), .sl 2 true (y.2.2.1.map e_ii) [.i 0, .i 0])], y.2.2.2⟩) (fun y => D_putlogref07_Move_L2 N l691 dx692 dy693 y.1 y.2.1 y.2.2.1 = some o716) (fun y => y.1) (N, 0, [], 5) hL2 ?_ ?_
      · exact leF F
      · rintro ⟨n, i706, l707, c705⟩ hB3
        try simp only at hB3
        obtain _ | n := n
        · exact absurd hB3 (by simp [D_putlogref07_Move_L2])
        rw [D_putlogref07_Move_L2] at hB3
        refine go hS F ?_
        refine cb F (decide (i706 < (l691.length : Int))) (fun hc4 => ?_) (fun hc4 => ?_)
        · replace hB3 := cond_t hc4 hB3
          try simp only [gd_some, Option.bind_eq_some_iff] at hB3
          obtain ⟨⟨x708, x709⟩, hn709, hB3⟩ := hB3
          have hx709 : l691.getD i706.toNat (0, 0) = (x708, x709) := ixs hn709 _
          have hb709 := (nth_some hn709).1
          replace F := fc hx709 F
          try simp only [gd_some, Option.bind_eq_some_iff] at hB3
          obtain ⟨hv5, hv6, hv7, hv8, hB3⟩ := hB3
          simp only [I64] at hv5
          simp only [I64] at hv6
          simp only [I64] at hv8
          refine go hS F ?_
          exact backK_n (n, i706 + 1, l707 ++ [(x708 + dx692, x709 + dy693)], c705 + 1 + 1 + 1) hB3 (Nat.lt_succ_self _) (leF F)
        · replace hB3 := cond_f hc4 hB3
          refine go hS F ?_
          exact cutK_h (l707, c705 + 1) (Option.some.inj hB3) (leF F)
    · rintro ⟨l715, c714⟩ hz9
      subst hz9
      try simp only at h
      try simp only [gd_some, Option.bind_eq_some_iff] at h
      obtain ⟨r717, hr717, h⟩ := h
      replace F := fc hr717 F
      refine go hS F ?_
      refine cb F (!r717) (fun hc10 => ?_) (fun hc10 => ?_)
      · replace h := cond_t hc10 h
        obtain rfl := Option.some.inj h
        refine go hS F ?_
        exact fin F
      · replace h := cond_f hc10 h
        obtain rfl := Option.some.inj h
        refine go hS F ?_
        exact fin F
end

def s41 (N : Nat) : Spec
  | [.sl yl691 _ l691 _, .v (.int .i64 dx692), .v (.int .i64 dy693)] => some (((yl691 = 2 ∨ l691 = []) ∧ l691 = (l691.map d_ii).map e_ii) ∧ (D_putlogref07_Move N (l691.map d_ii) dx692 dy693).isSome = true, .tup [.sl 2 false ((((D_putlogref07_Move N (l691.map d_ii) dx692 dy693).getD ([], 0)).1).map e_ii) [.i 0, .i 0], .i (((D_putlogref07_Move N (l691.map d_ii) dx692 dy693).getD ([], 0)).2)])
  | _ => none
theorem fok41 (N : Nat) : FOK Try.prog 41 (s41 N) := ⟨of41, by
  intro args vc r h hv
  unfold s41 at h
  split at h
  · cases h
    obtain ⟨⟨hy0, hr0⟩, hs⟩ := hv
    obtain ⟨r, hr⟩ := Option.isSome_iff_exists.1 hs
    have hk := D_putlogref07_Move_ok N _ _ _ r hr
    simp only [hr, Option.getD_some]
    refine PCall.arg ?_ hk
    simp only [wkL, wk, and_true, true_and, Bool.false_eq_true, false_implies, implies_true]
    repeat' (first | exact True.intro | assumption | apply And.intro)
  · simp at h⟩

/-! putlog/putlogref07.separates -/
def D_putlogref07_separates_L1 (N : Nat) (other721 : List (Int × Int)) (l719 : List (Int × Int)) (i720 : Int) : Nat → Int → Option (Sum Unit Bool)
  | 0, _ => none
  | n + 1, k735 =>
    bif decide (k735 < (other721.length : Int)) then (
      (nth l719 i720).bind fun (x736, x737) =>
      (D_putlogref07_end N l719 i720).bind fun (r739, r740) =>
      (nth other721 k735).bind fun (x742, x743) =>
      (D_putlogref07_Turn N x736 x737 r739 r740 x742 x743).bind fun r745 =>
      bif decide (0 < r745) then (
        some (.inr false))
      else (
        gd (I64 (k735 + 1)) <|
        D_putlogref07_separates_L1 N other721 l719 i720 n (k735 + 1)))
    else (
      some (.inl ()))

def D_putlogref07_separates (N : Nat) (l719 : List (Int × Int)) (i720 : Int) (other721 : List (Int × Int)) : Option Bool :=
  (D_putlogref07_separates_L1 N other721 l719 i720 N 0).bind fun o751 => match o751 with
    | .inl () => (
      some true)
    | .inr r750 => (
      some r750)

def T61 (N : Nat) : List (Nat × Spec) := [(59, s59 N), (28, s28 N)]
theorem T61_ok (N : Nat) : TabOK Try.prog (tabOf (T61 N)) := tab_cons (fok59 N) (tab_cons (fok28 N) (tab_nil))

section
attribute [local go_sem] T61 s59 s28 e_ii de_ii rb_ii d_ii rowAt_zero rowAt_succ List.set_cons_succ List.isEmpty_map List.map_append List.map_eq_nil_iff ne_eq List.length_replicate takeMap dropMap List.length_set Option.isSome_some
theorem D_putlogref07_separates_ok (N : Nat) (l719 : List (Int × Int)) (i720 : Int) (other721 : List (Int × Int)) (r : Bool) (h : D_putlogref07_separates N l719 i720 other721 = some r) : PCall Try.prog 61 [.sl 2 false (l719.map e_ii) [.i 0, .i 0], .i i720, .sl 2 false (other721.map e_ii) [.i 0, .i 0]] (.b r) := by
  refine pcall_fn (T61_ok N) _ Try.func61 ok61 nt61 (by simp) fun _ => ?_
  have hS := T61_ok N
  have F := f0
  unfold ac61 rv61
  unfold D_putlogref07_separates at h
  try simp only [gd_some, Option.bind_eq_some_iff] at h
  obtain ⟨o751, hL1, h⟩ := h
  refine go hS F ?_
  refine awp_cut (fun z : Nat => ⟨[], [], z⟩) (fun z => (.inl () : Sum Unit Bool) = o751) (.x 0) ?_ ?_
  · refine awp_loop (fun y : Nat × Int × Nat => ⟨[(0, .sl 2 false (l719.map e_ii) [.i 0, .i 0]), (1, .i i720), (2, .sl 2 false (other721.map e_ii) [.i 0, .i 0]), (7, .i y.2.1)], [], y.2.2⟩) (fun y => D_putlogref07_separates_L1 N other721 l719 i720 y.1 y.2.1 = some o751) (fun y => y.1) (N, 0, 2) hL1 ?_ ?_
    · exact leF F
    · rintro ⟨n, k735, c734⟩ hB2
      try simp only at hB2
      obtain _ | n := n
      · exact absurd hB2 (by simp [D_putlogref07_separates_L1])
      rw [D_putlogref07_separates_L1] at hB2
      refine go hS F ?_
      refine cb F (decide (k735 < (other721.length : Int))) (fun hc3 => ?_) (fun hc3 => ?_)
      · replace hB2 := cond_t hc3 hB2
        try simp only [gd_some, Option.bind_eq_some_iff] at hB2
        obtain ⟨⟨x736, x737⟩, hn737, hB2⟩ := hB2
        have hx737 : l719.getD i720.toNat (0, 0) = (x736, x737) := ixs hn737 _
        have hb737 := (nth_some hn737).1
        replace F := fc hx737 F
        try simp only [gd_some, Option.bind_eq_some_iff] at hB2
        obtain ⟨⟨r739, r740⟩, hr740, hB2⟩ := hB2
        replace F := fc hr740 F
        try simp only [gd_some, Option.bind_eq_some_iff] at hB2
        obtain ⟨⟨x742, x743⟩, hn743, hB2⟩ := hB2
        have hx743 : other721.getD k735.toNat (0, 0) = (x742, x743) := ixs hn743 _
        have hb743 := (nth_some hn743).1
        replace F := fc hx743 F
        try simp only [gd_some, Option.bind_eq_some_iff] at hB2
        obtain ⟨r745, hr745, hB2⟩ := hB2
        replace F := fc hr745 F
        refine go hS F ?_
        refine cb F (decide (0 < r745)) (fun hc4 => ?_) (fun hc4 => ?_)
        · replace hB2 := cond_t hc4 hB2
          obtain rfl := Option.some.inj hB2
          try simp only at h
          obtain rfl := Option.some.inj h
          refine go hS F ?_
          exact fin F
        · replace hB2 := cond_f hc4 hB2
          try simp only [gd_some, Option.bind_eq_some_iff] at hB2
          obtain ⟨hv5, hB2⟩ := hB2
          simp only [I64] at hv5
          refine go hS F ?_
          exact backK_n (n, k735 + 1, c734 + 1 + 1 + 1) hB2 (Nat.lt_succ_self _) (leF F)
      · replace hB2 := cond_f hc3 hB2
        refine go hS F ?_
        exact cutK_h (c734 + 1) (Option.some.inj hB2) (leF F)
  · rintro c749 hz6
    subst hz6
    try simp only at h
    obtain rfl := Option.some.inj h
    refine go hS F ?_
    exact fin F
end

def s61 (N : Nat) : Spec
  | [.sl yl719 _ l719 _, .v (.int .i64 i720), .sl yother721 _ other721 _] => some (((yl719 = 2 ∨ l719 = []) ∧ l719 = (l719.map d_ii).map e_ii) ∧ ((yother721 = 2 ∨ other721 = []) ∧ other721 = (other721.map d_ii).map e_ii) ∧ (D_putlogref07_separates N (l719.map d_ii) i720 (other721.map d_ii)).isSome = true, .b ((D_putlogref07_separates N (l719.map d_ii) i720 (other721.map d_ii)).getD false))
  | _ => none
theorem fok61 (N : Nat) : FOK Try.prog 61 (s61 N) := ⟨of61, by
  intro args vc r h hv
  unfold s61 at h
  split at h
  · cases h
    obtain ⟨⟨hy0, hr0⟩, ⟨hy1, hr1⟩, hs⟩ := hv
    obtain ⟨r, hr⟩ := Option.isSome_iff_exists.1 hs
    have hk := D_putlogref07_separates_ok N _ _ _ r hr
    simp only [hr, Option.getD_some]
    refine PCall.arg ?_ hk
    simp only [wkL, wk, and_true, true_and, Bool.false_eq_true, false_implies, implies_true]
    repeat' (first | exact True.intro | assumption | apply And.intro)
  · simp at h⟩

/-! putlog/putlogref07.Side -/
def D_putlogref07_Side_L1 (N : Nat) (a752 : List (Int × Int)) (b753 : List (Int × Int)) : Nat → Int → Option (Sum Unit ((Int × Int × Bool)))
  | 0, _ => none
  | n + 1, i760 =>
    bif decide (i760 < (a752.length : Int)) then (
      (D_putlogref07_separates N a752 i760 b753).bind fun r761 =>
      bif r761 then (
        some (.inr (0, i760, true)))
      else (
        gd (I64 (i760 + 1)) <|
        D_putlogref07_Side_L1 N a752 b753 n (i760 + 1)))
    else (
      some (.inl ()))

def D_putlogref07_Side_L2 (N : Nat) (b753 : List (Int × Int)) (a752 : List (Int × Int)) : Nat → Int → Option (Sum Unit ((Int × Int × Bool)))
  | 0, _ => none
  | n + 1, i772 =>
    bif decide (i772 < (b753.length : Int)) then (
      (D_putlogref07_separates N b753 i772 a752).bind fun r773 =>
      bif r773 then (
        some (.inr (1, i772, true)))
      else (
        gd (I64 (i772 + 1)) <|
        D_putlogref07_Side_L2 N b753 a752 n (i772 + 1)))
    else (
      some (.inl ()))

def D_putlogref07_Side (N : Nat) (a752 : List (Int × Int)) (b753 : List (Int × Int)) : Option (Int × Int × Bool) :=
  (D_putlogref07_Valid N a752).bind fun r754 =>
  gd ((!(!r754)) = true → ((D_putlogref07_Valid N b753).isSome = true)) <|
  bif (!r754) || (!((D_putlogref07_Valid N b753).getD false)) then (
    some (0, 0, false))
  else (
    (D_putlogref07_Side_L1 N a752 b753 N 0).bind fun o767 => match o767 with
      | .inl () => (
        (D_putlogref07_Side_L2 N b753 a752 N 0).bind fun o779 => match o779 with
          | .inl () => (
            some (0, 0, false))
          | .inr r778 => (
            some r778))
      | .inr r766 => (
        some r766))

def T43 (N : Nat) : List (Nat × Spec) := [(37, s37 N), (61, s61 N)]
theorem T43_ok (N : Nat) : TabOK Try.prog (tabOf (T43 N)) := tab_cons (fok37 N) (tab_cons (fok61 N) (tab_nil))

section
attribute [local go_sem] T43 s37 s61 e_ii de_ii rb_ii d_ii rowAt_zero rowAt_succ List.set_cons_succ List.isEmpty_map List.map_append List.map_eq_nil_iff ne_eq List.length_replicate takeMap dropMap List.length_set Option.isSome_some
theorem D_putlogref07_Side_ok (N : Nat) (a752 : List (Int × Int)) (b753 : List (Int × Int)) (r : Int × Int × Bool) (h : D_putlogref07_Side N a752 b753 = some r) : PCall Try.prog 43 [.sl 2 false (a752.map e_ii) [.i 0, .i 0], .sl 2 false (b753.map e_ii) [.i 0, .i 0]] (.tup [.i r.1, .i r.2.1, .b r.2.2]) := by
  refine pcall_fn (T43_ok N) _ Try.func43 ok43 nt43 (by simp) fun _ => ?_
  have hS := T43_ok N
  have F := f0
  unfold ac43 rv43
  unfold D_putlogref07_Side at h
  try simp only [gd_some, Option.bind_eq_some_iff] at h
  obtain ⟨r754, hr754, hv1, h⟩ := h
  replace F := fc hr754 F
  refine go hS F ?_
  refine cb F ((!r754) || (!((D_putlogref07_Valid N b753).getD false))) (fun hc2 => ?_) (fun hc2 => ?_)
  · replace h := cond_t hc2 h
    obtain rfl := Option.some.inj h
    refine go hS F ?_
    exact fin F
  · replace h := cond_f hc2 h
    try simp only [gd_some, Option.bind_eq_some_iff] at h
    obtain ⟨o767, hL3, h⟩ := h
    refine go hS F ?_
    refine awp_cut (fun z : Nat => ⟨[(0, .sl 2 false (a752.map e_ii) [.i 0, .i 0]), (1, .sl 2 false (b753.map e_ii) [.i 0, .i 0])], [], z⟩) (fun z => (.inl () : Sum Unit ((Int × Int × Bool))) = o767) (.x 0) ?_ ?_
    · refine awp_loop (fun y : Nat × Int × Nat => ⟨[(0, .sl 2 false (a752.map e_ii) [.i 0, .i 0]), (1, .sl 2 false (b753.map e_ii) [.i 0, .i 0]), (7, .i y.2.1)], [], y.2.2⟩) (fun y => D_putlogref07_Side_L1 N a752 b753 y.1 y.2.1 = some o767) (fun y => y.1) (N, 0, 3) hL3 ?_ ?_
      · exact leF F
      · rintro ⟨n, i760, c759⟩ hB4
        try simp only at hB4
        obtain _ | n := n
        · exact absurd hB4 (by simp [D_putlogref07_Side_L1])
        rw [D_putlogref07_Side_L1] at hB4
        refine go hS F ?_
        refine cb F (decide (i760 < (a752.length : Int))) (fun hc5 => ?_) (fun hc5 => ?_)
        · replace hB4 := cond_t hc5 hB4
          try simp only [gd_some, Option.bind_eq_some_iff] at hB4
          obtain ⟨r761, hr761, hB4⟩ := hB4
          replace F := fc hr761 F
          refine go hS F ?_
          refine cb F (r761) (fun hc6 => ?_) (fun hc6 => ?_)
          · replace hB4 := cond_t hc6 hB4
            obtain rfl := Option.some.inj hB4
            try simp only at h
            obtain rfl := Option.some.inj h
            refine go hS F ?_
            exact fin F
          · replace hB4 := cond_f hc6 hB4
            try simp only [gd_some, Option.bind_eq_some_iff] at hB4
            obtain ⟨hv7, hB4⟩ := hB4
            simp only [I64] at hv7
            refine go hS F ?_
            exact backK_n (n, i760 + 1, c759 + 1 + 1 + 1) hB4 (Nat.lt_succ_self _) (leF F)
        · replace hB4 := cond_f hc5 hB4
          refine go hS F ?_
          exact cutK_h (c759 + 1) (Option.some.inj hB4) (leF F)
    · rintro c765 hz8
      subst hz8
      try simp only at h
      try simp only [gd_some, Option.bind_eq_some_iff] at h
      obtain ⟨o779, hL9, h⟩ := h
      refine go hS F ?_
      refine awp_cut (fun z : Nat => ⟨[], [], z⟩) (fun z => (.inl () : Sum Unit ((Int × Int × Bool))) = o779) (.x 2) ?_ ?_
      · refine awp_loop (fun y : Nat × Int × Nat => ⟨[(0, .sl 2 false (a752.map e_ii) [.i 0, .i 0]), (1, .sl 2 false (b753.map e_ii) [.i 0, .i 0]), (8, .i y.2.1)], [], y.2.2⟩) (fun y => D_putlogref07_Side_L2 N b753 a752 y.1 y.2.1 = some o779) (fun y => y.1) (N, 0, c765 + 1) hL9 ?_ ?_
        · exact leF F
        · rintro ⟨n, i772, c771⟩ hB10
          try simp only at hB10
          obtain _ | n := n
          · exact absurd hB10 (by simp [D_putlogref07_Side_L2])
          rw [D_putlogref07_Side_L2] at hB10
          refine go hS F ?_
          refine cb F (decide (i772 < (b753.length : Int))) (fun hc11 => ?_) (fun hc11 => ?_)
          · replace hB10 := cond_t hc11 hB10
            try simp only [gd_some, Option.bind_eq_some_iff] at hB10
            obtain ⟨r773, hr773, hB10⟩ := hB10
            replace F := fc hr773 F
            refine go hS F ?_
            refine cb F (r773) (fun hc12 => ?_) (fun hc12 => ?_)
            · replace hB10 := cond_t hc12 hB10
              obtain rfl := Option.some.inj hB10
              try simp only at h
              obtain rfl := Option.some.inj h
              refine go hS F ?_
              exact fin F
            · replace hB10 := cond_f hc12 hB10
              try simp only [gd_some, Option.bind_eq_some_iff] at hB10
              obtain ⟨hv13, hB10⟩ := hB10
              simp only [I64] at hv13
              refine go hS F ?_
              exact backK_n (n, i772 + 1, c771 + 1 + 1 + 1) hB10 (Nat.lt_succ_self _) (leF F)
          · replace hB10 := cond_f hc11 hB10
            refine go hS F ?_
            exact cutK_h (c771 + 1) (Option.some.inj hB10) (leF F)
      · rintro c777 hz14
        subst hz14
        try simp only at h
        obtain rfl := Option.some.inj h
        refine go hS F ?_
        exact fin F
end

def s43 (N : Nat) : Spec
  | [.sl ya752 _ a752 _, .sl yb753 _ b753 _] => some (((ya752 = 2 ∨ a752 = []) ∧ a752 = (a752.map d_ii).map e_ii) ∧ ((yb753 = 2 ∨ b753 = []) ∧ b753 = (b753.map d_ii).map e_ii) ∧ (D_putlogref07_Side N (a752.map d_ii) (b753.map d_ii)).isSome = true, .tup [.i (((D_putlogref07_Side N (a752.map d_ii) (b753.map d_ii)).getD (0, 0, false)).1), .i (((D_putlogref07_Side N (a752.map d_ii) (b753.map d_ii)).getD (0, 0, false)).2.1), .b (((D_putlogref07_Side N (a752.map d_ii) (b753.map d_ii)).getD (0, 0, false)).2.2)])
  | _ => none
theorem fok43 (N : Nat) : FOK Try.prog 43 (s43 N) := ⟨of43, by
  intro args vc r h hv
  unfold s43 at h
  split at h
  · cases h
    obtain ⟨⟨hy0, hr0⟩, ⟨hy1, hr1⟩, hs⟩ := hv
    obtain ⟨r, hr⟩ := Option.isSome_iff_exists.1 hs
    have hk := D_putlogref07_Side_ok N _ _ r hr
    simp only [hr, Option.getD_some]
    refine PCall.arg ?_ hk
    simp only [wkL, wk, and_true, true_and, Bool.false_eq_true, false_implies, implies_true]
    repeat' (first | exact True.intro | assumption | apply And.intro)
  · simp at h⟩

/-! putlog/putlogref07.Bent -/
def D_putlogref07_Bent (N : Nat) (l780 : List (Int × Int)) (how781 : Int) (n782 : Int) (at783 : Int) : Option (List (Int × Int)) :=
  gd ((l780.length) * 16 ≤ 140737488355328) <|
  bif decide ((l780.length : Int) = 0) then (
    some [(n782, n782)])
  else (
    (D_putlogref07_pick N at783 (l780.length : Int)).bind fun r784 =>
    (D_putlogref07_pick N how781 5).bind fun r786 =>
    bif decide (r786 = 0) then (
      (nth l780 r784).bind fun (x837, x838) =>
      some (l780.set r784.toNat (n782, x838)))
    else (
      bif decide (r786 = 1) then (
        (nth l780 r784).bind fun (x863, x864) =>
        some (l780.set r784.toNat (x863, n782)))
      else (
        bif decide (r786 = 2) then (
          gd (I64 (r784 + 1)) <|
          gd ((l780.length : Int) ≠ 0) <|
          (nth l780 ((r784 + 1).tmod (l780.length : Int))).bind fun (x876, x877) =>
          (nth l780 r784).bind fun (x879, x880) =>
          some (l780.set r784.toNat (x876, x877)))
        else (
          bif decide (r786 = 3) then (
            gd (0 ≤ 0 ∧ 0 ≤ r784 ∧ r784 ≤ r784 ∧ r784 ≤ (l780.length : Int)) <|
            gd (I64 (r784 + 1)) <|
            gd (0 ≤ r784 + 1 ∧ r784 + 1 ≤ (l780.length : Int)) <|
            gd (((l780.take (r784.toNat - 0)).length + (l780.drop (r784 + 1).toNat).length) * 16 ≤ 140737488355328) <|
            some (l780.take (r784.toNat - 0) ++ (l780.drop (r784 + 1).toNat)))
          else (
            gd (0 ≤ 0 ∧ 0 ≤ r784 ∧ r784 ≤ r784 ∧ r784 ≤ (l780.length : Int)) <|
            (D_putlogref07_pick N at783 50).bind fun r884 =>
            gd (I64 (r884 - 5)) <|
            gd (0 ≤ r784 ∧ r784 ≤ (l780.length : Int)) <|
            gd ((1 + (l780.drop r784.toNat).length) * 16 ≤ 140737488355328) <|
            gd (((l780.take (r784.toNat - 0)).length + ([(n782, r884 - 5)] ++ (l780.drop r784.toNat)).length) * 16 ≤ 140737488355328) <|
            some (l780.take (r784.toNat - 0) ++ ([(n782, r884 - 5)] ++ (l780.drop r784.toNat))))))))

def T12 (N : Nat) : List (Nat × Spec) := [(33, s33 N)]
theorem T12_ok (N : Nat) : TabOK Try.prog (tabOf (T12 N)) := tab_cons (fok33 N) (tab_nil)

section
attribute [local go_sem] T12 s33 e_ii de_ii rb_ii d_ii rowAt_zero rowAt_succ List.set_cons_succ List.isEmpty_map List.map_append List.map_eq_nil_iff ne_eq List.length_replicate takeMap dropMap List.length_set Option.isSome_some
theorem D_putlogref07_Bent_ok (N : Nat) (l780 : List (Int × Int)) (how781 : Int) (n782 : Int) (at783 : Int) (r : List (Int × Int)) (h : D_putlogref07_Bent N l780 how781 n782 at783 = some r) : PCall Try.prog 12 [.sl 2 false (l780.map e_ii) [.i 0, .i 0], .i how781, .i n782, .i at783] (.sl 2 false (r.map e_ii) [.i 0, .i 0]) := by
  refine pcall_fn (T12_ok N) _ Try.func12 ok12 nt12 (by simp) fun _ => ?_
  have hS := T12_ok N
  have F := f0
  unfold ac12 rv12
  unfold D_putlogref07_Bent at h
  try simp only [gd_some, Option.bind_eq_some_iff] at h
  obtain ⟨hv1, h⟩ := h
  refine go hS F ?_
  refine cb F (decide ((l780.length : Int) = 0)) (fun hc2 => ?_) (fun hc2 => ?_)
  · replace h := cond_t hc2 h
    obtain rfl := Option.some.inj h
    refine go hS F ?_
    exact fin F
  · replace h := cond_f hc2 h
    try simp only [gd_some, Option.bind_eq_some_iff] at h
    obtain ⟨r784, hr784, r786, hr786, h⟩ := h
    replace F := fc hr786 (fc hr784 F)
    refine go hS F ?_
    refine cb F (decide (r786 = 0)) (fun hc3 => ?_) (fun hc3 => ?_)
    · replace h := cond_t hc3 h
      try simp only [gd_some, Option.bind_eq_some_iff] at h
      obtain ⟨⟨x837, x838⟩, hn838, h⟩ := h
      have hx838 : l780.getD r784.toNat (0, 0) = (x837, x838) := ixs hn838 _
      have hb838 := (nth_some hn838).1
      replace F := fc hx838 F
      obtain rfl := Option.some.inj h
      refine go hS F ?_
      exact fin F
    · replace h := cond_f hc3 h
      refine go hS F ?_
      refine cb F (decide (r786 = 1)) (fun hc4 => ?_) (fun hc4 => ?_)
      · replace h := cond_t hc4 h
        try simp only [gd_some, Option.bind_eq_some_iff] at h
        obtain ⟨⟨x863, x864⟩, hn864, h⟩ := h
        have hx864 : l780.getD r784.toNat (0, 0) = (x863, x864) := ixs hn864 _
        have hb864 := (nth_some hn864).1
        replace F := fc hx864 F
        obtain rfl := Option.some.inj h
        refine go hS F ?_
        exact fin F
      · replace h := cond_f hc4 h
        refine go hS F ?_
        refine cb F (decide (r786 = 2)) (fun hc5 => ?_) (fun hc5 => ?_)
        · replace h := cond_t hc5 h
          try simp only [gd_some, Option.bind_eq_some_iff] at h
          obtain ⟨hv6, hv7, ⟨x876, x877⟩, hn877, h⟩ := h
          simp only [I64] at hv6
          have hx877 : l780.getD ((r784 + 1).tmod (l780.length : Int)).toNat (0, 0) = (x876, x877) := ixs hn877 _
          have hb877 := (nth_some hn877).1
          replace F := fc hx877 F
          try simp only [gd_some, Option.bind_eq_some_iff] at h
          obtain ⟨⟨x879, x880⟩, hn880, h⟩ := h
          have hx880 : l780.getD r784.toNat (0, 0) = (x879, x880) := ixs hn880 _
          have hb880 := (nth_some hn880).1
          replace F := fc hx880 F
          obtain rfl := Option.some.inj h
          refine go hS F ?_
          exact fin F
        · replace h := cond_f hc5 h
          refine go hS F ?_
          refine cb F (decide (r786 = 3)) (fun hc8 => ?_) (fun hc8 => ?_)
          · replace h := cond_t hc8 h
            refine go hS F ?_
            refine awp_frzE 9 (by show (9 : Nat) < 81; omega) (by simp only [go_sem, seval, F] <;> eq_refl) (by simp only [go_sem, seval, F] <;> eq_refl) (by simp) ?_
            try simp only [gd_some, Option.bind_eq_some_iff] at h
            obtain ⟨hv9, hv10, hv11, hv12, h⟩ := h
            simp only [I64] at hv10
            obtain rfl := Option.some.inj h
            refine go hS F ?_
            exact fin F
          · replace h := cond_f hc8 h
            refine go hS F ?_
            refine awp_frzE 9 (by show (9 : Nat) < 81; omega) (by simp only [go_sem, seval, F] <;> eq_refl) (by simp only [go_sem, seval, F] <;> eq_refl) (by simp) ?_
            try simp only [gd_some, Option.bind_eq_some_iff] at h
            obtain ⟨hv13, r884, hr884, hv14, hv15, hv16, hv17, h⟩ := h
            simp only [I64] at hv14
            replace F := fc hr884 F
            obtain rfl := Option.some.inj h
            refine go hS F ?_
            exact fin F
end

def s12 (N : Nat) : Spec
  | [.sl yl780 _ l780 _, .v (.int .i64 how781), .v (.int .i64 n782), .v (.int .i64 at783)] => some (((yl780 = 2 ∨ l780 = []) ∧ l780 = (l780.map d_ii).map e_ii) ∧ (D_putlogref07_Bent N (l780.map d_ii) how781 n782 at783).isSome = true, .sl 2 false (((D_putlogref07_Bent N (l780.map d_ii) how781 n782 at783).getD []).map e_ii) [.i 0, .i 0])
  | _ => none
theorem fok12 (N : Nat) : FOK Try.prog 12 (s12 N) := ⟨of12, by
  intro args vc r h hv
  unfold s12 at h
  split at h
  · cases h
    obtain ⟨⟨hy0, hr0⟩, hs⟩ := hv
    obtain ⟨r, hr⟩ := Option.isSome_iff_exists.1 hs
    have hk := D_putlogref07_Bent_ok N _ _ _ _ r hr
    simp only [hr, Option.getD_some]
    refine PCall.arg ?_ hk
    simp only [wkL, wk, and_true, true_and, Bool.false_eq_true, false_implies, implies_true]
    repeat' (first | exact True.intro | assumption | apply And.intro)
  · simp at h⟩
end Go.Proofs.Ytojciffnkbfbhaa.Am
