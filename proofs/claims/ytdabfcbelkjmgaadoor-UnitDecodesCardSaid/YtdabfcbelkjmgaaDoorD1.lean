import Derived.Test.YtdabfcbelkjmgaaDoorAc1
import Derived.Test.YtdabfcbelkjmgaaDoorA13
import Derived.Test.YtdabfcbelkjmgaaDoorP4
namespace Go.Proofs.YtdabfcbelkjmgaaDoor.Am
open Go
attribute [local irreducible] awp seqK blkK backK endK inlK restK rngK asgK itK
set_option maxRecDepth 100000
set_option maxHeartbeats 8000000
set_option linter.unusedSimpArgs false
set_option linter.unusedVariables false
def e_ii (x : Int × Int) : List AV := [.i x.1, .i x.2]
def d_ii : List AV → Int × Int
  | [.v (.int _ a1), .v (.int _ a2)] => (a1, a2)
  | _ => (0, 0)
theorem d1_ii (x : Int × Int) : d_ii (e_ii x) = x := by rfl
theorem de_ii (R : List (Int × Int)) : (R.map e_ii).map d_ii = R := by
  induction R with
  | nil => rfl
  | cons r R ih => rw [List.map_cons, List.map_cons, ih, d1_ii]

theorem rb_ii (R : List (Int × Int)) (i : Nat) : rowAt (R.map e_ii) [.i 0, .i 0] i = e_ii (R.getD i (0, 0)) := by
  unfold rowAt; rw [List.getD_eq_getElem?_getD, List.getD_eq_getElem?_getD, List.getElem?_map]; cases R[i]? <;> rfl
/-! putlog/putlogref07.Turn -/
def D_putlogref07_Turn (N : Nat) (a1 : Int) (a2 : Int) (b3 : Int) (b4 : Int) (c5 : Int) (c6 : Int) : Option Int :=
  gd (I64 (b3 - a1)) <|
  gd (I64 (c6 - a2)) <|
  gd (I64 ((b3 - a1) * (c6 - a2))) <|
  gd (I64 (b4 - a2)) <|
  gd (I64 (c5 - a1)) <|
  gd (I64 ((b4 - a2) * (c5 - a1))) <|
  gd (I64 (((b3 - a1) * (c6 - a2)) - ((b4 - a2) * (c5 - a1)))) <|
  some (((b3 - a1) * (c6 - a2)) - ((b4 - a2) * (c5 - a1)))

def T78 (N : Nat) : List (Nat × Spec) := []
theorem T78_ok (N : Nat) : TabOK Tryd.prog (tabOf (T78 N)) := tab_nil

section
attribute [local go_sem] T78 rowAt_zero rowAt_succ List.set_cons_succ List.isEmpty_map List.map_append List.map_eq_nil_iff ne_eq List.length_replicate takeMap dropMap List.length_set Option.isSome_some
theorem D_putlogref07_Turn_ok (N : Nat) (a1 : Int) (a2 : Int) (b3 : Int) (b4 : Int) (c5 : Int) (c6 : Int) (r : Int) (h : D_putlogref07_Turn N a1 a2 b3 b4 c5 c6 = some r) : PCall Tryd.prog 78 [.agg [.i a1, .i a2], .agg [.i b3, .i b4], .agg [.i c5, .i c6]] (.i r) := by
  refine pcall_fn (T78_ok N) _ Tryd.func78 ok78 nt78 (by simp) fun _ => ?_
  have hS := T78_ok N
  have F := f0
  unfold ac78 rv78
  unfold D_putlogref07_Turn at h
  try simp only [gd_some, Option.bind_eq_some_iff] at h
  obtain ⟨hv1, hv2, hv3, hv4, hv5, hv6, hv7, h⟩ := h
  simp only [I64] at hv1
  simp only [I64] at hv2
  simp only [I64] at hv3
  simp only [I64] at hv4
  simp only [I64] at hv5
  simp only [I64] at hv6
  simp only [I64] at hv7
  obtain rfl := Option.some.inj h
  refine go hS F ?_
  exact fin F
end

def s78 (N : Nat) : Spec
  | [.agg [.v (.int .i64 a1), .v (.int .i64 a2)], .agg [.v (.int .i64 b3), .v (.int .i64 b4)], .agg [.v (.int .i64 c5), .v (.int .i64 c6)]] => some ((D_putlogref07_Turn N a1 a2 b3 b4 c5 c6).isSome = true, .i ((D_putlogref07_Turn N a1 a2 b3 b4 c5 c6).getD 0))
  | _ => none
theorem fok78 (N : Nat) : FOK Tryd.prog 78 (s78 N) := ⟨of78, by
  intro args vc r h hv
  unfold s78 at h
  split at h
  · cases h
    have hs := hv
    obtain ⟨r, hr⟩ := Option.isSome_iff_exists.1 hs
    have hk := D_putlogref07_Turn_ok N _ _ _ _ _ _ r hr
    simp only [hr, Option.getD_some]
    refine PCall.arg ?_ hk
    simp only [wkL, wk, and_true, true_and, Bool.false_eq_true, false_implies, implies_true]
    try trivial
  · simp at h⟩

/-! putlog/putlogref07.OnMap -/
def D_putlogref07_OnMap (N : Nat) (p7 : Int) (p8 : Int) : Option Bool :=
  some ((((decide (0 ≤ p7)) && (decide (p7 ≤ 40))) && (decide (0 ≤ p8))) && (decide (p8 ≤ 40)))

def T80 (N : Nat) : List (Nat × Spec) := []
theorem T80_ok (N : Nat) : TabOK Tryd.prog (tabOf (T80 N)) := tab_nil

section
attribute [local go_sem] T80 rowAt_zero rowAt_succ List.set_cons_succ List.isEmpty_map List.map_append List.map_eq_nil_iff ne_eq List.length_replicate takeMap dropMap List.length_set Option.isSome_some
theorem D_putlogref07_OnMap_ok (N : Nat) (p7 : Int) (p8 : Int) (r : Bool) (h : D_putlogref07_OnMap N p7 p8 = some r) : PCall Tryd.prog 80 [.agg [.i p7, .i p8]] (.b r) := by
  refine pcall_fn (T80_ok N) _ Tryd.func80 ok80 nt80 (by simp) fun _ => ?_
  have hS := T80_ok N
  have F := f0
  unfold ac80 rv80
  unfold D_putlogref07_OnMap at h
  obtain rfl := Option.some.inj h
  refine go hS F ?_
  exact fin F
end

def s80 (N : Nat) : Spec
  | [.agg [.v (.int .i64 p7), .v (.int .i64 p8)]] => some ((D_putlogref07_OnMap N p7 p8).isSome = true, .b ((D_putlogref07_OnMap N p7 p8).getD false))
  | _ => none
theorem fok80 (N : Nat) : FOK Tryd.prog 80 (s80 N) := ⟨of80, by
  intro args vc r h hv
  unfold s80 at h
  split at h
  · cases h
    have hs := hv
    obtain ⟨r, hr⟩ := Option.isSome_iff_exists.1 hs
    have hk := D_putlogref07_OnMap_ok N _ _ r hr
    simp only [hr, Option.getD_some]
    refine PCall.arg ?_ hk
    simp only [wkL, wk, and_true, true_and, Bool.false_eq_true, false_implies, implies_true]
    try trivial
  · simp at h⟩

/-! putlog/putlogref07.end -/
def D_putlogref07_end (N : Nat) (l9 : List (Int × Int)) (i10 : Int) : Option (Int × Int) :=
  gd (I64 (i10 + 1)) <|
  gd ((l9.length : Int) ≠ 0) <|
  (nth l9 ((i10 + 1).tmod (l9.length : Int))).bind fun (x11, x12) =>
  some (x11, x12)

def T81 (N : Nat) : List (Nat × Spec) := []
theorem T81_ok (N : Nat) : TabOK Tryd.prog (tabOf (T81 N)) := tab_nil

section
attribute [local go_sem] T81 e_ii de_ii rb_ii d_ii rowAt_zero rowAt_succ List.set_cons_succ List.isEmpty_map List.map_append List.map_eq_nil_iff ne_eq List.length_replicate takeMap dropMap List.length_set Option.isSome_some
theorem D_putlogref07_end_ok (N : Nat) (l9 : List (Int × Int)) (i10 : Int) (r : Int × Int) (h : D_putlogref07_end N l9 i10 = some r) : PCall Tryd.prog 81 [.sl 2 false (l9.map e_ii) [.i 0, .i 0], .i i10] (.agg [.i r.1, .i r.2]) := by
  refine pcall_fn (T81_ok N) _ Tryd.func81 ok81 nt81 (by simp) fun _ => ?_
  have hS := T81_ok N
  have F := f0
  unfold ac81 rv81
  unfold D_putlogref07_end at h
  try simp only [gd_some, Option.bind_eq_some_iff] at h
  obtain ⟨hv1, hv2, ⟨x11, x12⟩, hn12, h⟩ := h
  simp only [I64] at hv1
  have hx12 : l9.getD ((i10 + 1).tmod (l9.length : Int)).toNat (0, 0) = (x11, x12) := ixs hn12 _
  have hb12 := (nth_some hn12).1
  replace F := fc hx12 F
  obtain rfl := Option.some.inj h
  refine go hS F ?_
  exact fin F
end

def s81 (N : Nat) : Spec
  | [.sl yl9 _ l9 _, .v (.int .i64 i10)] => some (((yl9 = 2 ∨ l9 = []) ∧ l9 = (l9.map d_ii).map e_ii) ∧ (D_putlogref07_end N (l9.map d_ii) i10).isSome = true, .agg [.i (((D_putlogref07_end N (l9.map d_ii) i10).getD (0, 0)).1), .i (((D_putlogref07_end N (l9.map d_ii) i10).getD (0, 0)).2)])
  | _ => none
theorem fok81 (N : Nat) : FOK Tryd.prog 81 (s81 N) := ⟨of81, by
  intro args vc r h hv
  unfold s81 at h
  split at h
  · cases h
    obtain ⟨⟨hy0, hr0⟩, hs⟩ := hv
    obtain ⟨r, hr⟩ := Option.isSome_iff_exists.1 hs
    have hk := D_putlogref07_end_ok N _ _ r hr
    simp only [hr, Option.getD_some]
    refine PCall.arg ?_ hk
    simp only [wkL, wk, and_true, true_and, Bool.false_eq_true, false_implies, implies_true]
    repeat' (first | exact True.intro | assumption | apply And.intro)
  · simp at h⟩

/-! putlog/putlogref07.far -/
def D_putlogref07_far (N : Nat) (a14 : Int) (a15 : Int) (b16 : Int) (b17 : Int) : Option Int :=
  gd (I64 (a14 - b16)) <|
  gd (I64 (a14 - b16)) <|
  gd (I64 ((a14 - b16) * (a14 - b16))) <|
  gd (I64 (a15 - b17)) <|
  gd (I64 (a15 - b17)) <|
  gd (I64 ((a15 - b17) * (a15 - b17))) <|
  gd (I64 (((a14 - b16) * (a14 - b16)) + ((a15 - b17) * (a15 - b17)))) <|
  some (((a14 - b16) * (a14 - b16)) + ((a15 - b17) * (a15 - b17)))

def T79 (N : Nat) : List (Nat × Spec) := []
theorem T79_ok (N : Nat) : TabOK Tryd.prog (tabOf (T79 N)) := tab_nil

section
attribute [local go_sem] T79 rowAt_zero rowAt_succ List.set_cons_succ List.isEmpty_map List.map_append List.map_eq_nil_iff ne_eq List.length_replicate takeMap dropMap List.length_set Option.isSome_some
theorem D_putlogref07_far_ok (N : Nat) (a14 : Int) (a15 : Int) (b16 : Int) (b17 : Int) (r : Int) (h : D_putlogref07_far N a14 a15 b16 b17 = some r) : PCall Tryd.prog 79 [.agg [.i a14, .i a15], .agg [.i b16, .i b17]] (.i r) := by
  refine pcall_fn (T79_ok N) _ Tryd.func79 ok79 nt79 (by simp) fun _ => ?_
  have hS := T79_ok N
  have F := f0
  unfold ac79 rv79
  unfold D_putlogref07_far at h
  try simp only [gd_some, Option.bind_eq_some_iff] at h
  obtain ⟨hv1, hv2, hv3, hv4, hv5, hv6, hv7, h⟩ := h
  simp only [I64] at hv1
  simp only [I64] at hv2
  simp only [I64] at hv3
  simp only [I64] at hv4
  simp only [I64] at hv5
  simp only [I64] at hv6
  simp only [I64] at hv7
  obtain rfl := Option.some.inj h
  refine go hS F ?_
  exact fin F
end

def s79 (N : Nat) : Spec
  | [.agg [.v (.int .i64 a14), .v (.int .i64 a15)], .agg [.v (.int .i64 b16), .v (.int .i64 b17)]] => some ((D_putlogref07_far N a14 a15 b16 b17).isSome = true, .i ((D_putlogref07_far N a14 a15 b16 b17).getD 0))
  | _ => none
theorem fok79 (N : Nat) : FOK Tryd.prog 79 (s79 N) := ⟨of79, by
  intro args vc r h hv
  unfold s79 at h
  split at h
  · cases h
    have hs := hv
    obtain ⟨r, hr⟩ := Option.isSome_iff_exists.1 hs
    have hk := D_putlogref07_far_ok N _ _ _ _ r hr
    simp only [hr, Option.getD_some]
    refine PCall.arg ?_ hk
    simp only [wkL, wk, and_true, true_and, Bool.false_eq_true, false_implies, implies_true]
    try trivial
  · simp at h⟩

/-! putlog/putlogref07.pick -/
def D_putlogref07_pick (N : Nat) (c18 : Int) (n19 : Int) : Option Int :=
  bif decide (c18 < 0) then (
    gd (I64 (c18 + 1)) <|
    gd (I64 (-(c18 + 1))) <|
    gd (n19 ≠ 0) <|
    some ((-(c18 + 1)).tmod n19))
  else (
    gd (n19 ≠ 0) <|
    some (c18.tmod n19))

def T51 (N : Nat) : List (Nat × Spec) := []
theorem T51_ok (N : Nat) : TabOK Tryd.prog (tabOf (T51 N)) := tab_nil

section
attribute [local go_sem] T51 rowAt_zero rowAt_succ List.set_cons_succ List.isEmpty_map List.map_append List.map_eq_nil_iff ne_eq List.length_replicate takeMap dropMap List.length_set Option.isSome_some
theorem D_putlogref07_pick_ok (N : Nat) (c18 : Int) (n19 : Int) (r : Int) (h : D_putlogref07_pick N c18 n19 = some r) : PCall Tryd.prog 51 [.i c18, .i n19] (.i r) := by
  refine pcall_fn (T51_ok N) _ Tryd.func51 ok51 nt51 (by simp) fun _ => ?_
  have hS := T51_ok N
  have F := f0
  unfold ac51 rv51
  unfold D_putlogref07_pick at h
  refine go hS F ?_
  refine cb F (decide (c18 < 0)) (fun hc1 => ?_) (fun hc1 => ?_)
  · replace h := cond_t hc1 h
    try simp only [gd_some, Option.bind_eq_some_iff] at h
    obtain ⟨hv2, hv3, hv4, h⟩ := h
    simp only [I64] at hv2
    simp only [I64] at hv3
    obtain rfl := Option.some.inj h
    refine go hS F ?_
    exact fin F
  · replace h := cond_f hc1 h
    try simp only [gd_some, Option.bind_eq_some_iff] at h
    obtain ⟨hv5, h⟩ := h
    obtain rfl := Option.some.inj h
    refine go hS F ?_
    exact fin F
end

def s51 (N : Nat) : Spec
  | [.v (.int .i64 c18), .v (.int .i64 n19)] => some ((D_putlogref07_pick N c18 n19).isSome = true, .i ((D_putlogref07_pick N c18 n19).getD 0))
  | _ => none
theorem fok51 (N : Nat) : FOK Tryd.prog 51 (s51 N) := ⟨of51, by
  intro args vc r h hv
  unfold s51 at h
  split at h
  · cases h
    have hs := hv
    obtain ⟨r, hr⟩ := Option.isSome_iff_exists.1 hs
    have hk := D_putlogref07_pick_ok N _ _ r hr
    simp only [hr, Option.getD_some]
    refine PCall.arg ?_ hk
    simp only [wkL, wk, and_true, true_and, Bool.false_eq_true, false_implies, implies_true]
    try trivial
  · simp at h⟩

/-! putlog/putlogref07.Hull -/
def D_putlogref07_Hull_L1 (N : Nat) (l20 : List (Int × Int)) : Nat → Int → Int → Int → Option (Int × Int)
  | 0, _, _, _ => none
  | n + 1, i31, first32, first33 =>
    bif decide (i31 < (l20.length : Int)) then (
      (nth l20 i31).bind fun (x34, x35) =>
      bif (decide (x35 < first33)) || ((decide (x35 = first33)) && (decide (x34 < first32))) then (
        gd (I64 (i31 + 1)) <|
        D_putlogref07_Hull_L1 N l20 n (i31 + 1) x34 x35)
      else (
        gd (I64 (i31 + 1)) <|
        D_putlogref07_Hull_L1 N l20 n (i31 + 1) first32 first33))
    else (
      some (first32, first33))

def D_putlogref07_Hull_L6 (N : Nat) (l20 : List (Int × Int)) (at90 : Int) (at91 : Int) : Nat → Int → Int → Int → Option (Int × Int)
  | 0, _, _, _ => none
  | n + 1, i97, next98, next99 =>
    bif decide (i97 < (l20.length : Int)) then (
      (nth l20 i97).bind fun (x100, x101) =>
      bif decide (x100 = at90) && decide (x101 = at91) then (
        gd (I64 (i97 + 1)) <|
        D_putlogref07_Hull_L6 N l20 at90 at91 n (i97 + 1) next98 next99)
      else (
        (D_putlogref07_Turn N at90 at91 next98 next99 x100 x101).bind fun r103 =>
        gd ((decide (r103 = 0)) = true → ((D_putlogref07_far N at90 at91 x100 x101).isSome = true)) <|
        gd ((decide (r103 = 0)) = true → ((D_putlogref07_far N at90 at91 next98 next99).isSome = true)) <|
        bif ((decide (next98 = at90) && decide (next99 = at91)) || (decide (r103 < 0))) || ((decide (r103 = 0)) && (decide ((D_putlogref07_far N at90 at91 next98 next99).getD 0 < (D_putlogref07_far N at90 at91 x100 x101).getD 0))) then (
          gd (I64 (i97 + 1)) <|
          D_putlogref07_Hull_L6 N l20 at90 at91 n (i97 + 1) x100 x101)
        else (
          gd (I64 (i97 + 1)) <|
          D_putlogref07_Hull_L6 N l20 at90 at91 n (i97 + 1) next98 next99)))
    else (
      some (next98, next99))

def D_putlogref07_Hull_L4 (N : Nat) (l20 : List (Int × Int)) (first42 : Int) (first43 : Int) : Nat → Int → Int → (List (Int × Int)) → Option ((List (Int × Int)))
  | 0, _, _, _ => none
  | n + 1, at90, at91, l92 =>
    (D_putlogref07_Hull_L6 N l20 at90 at91 N 0 at90 at91).bind fun (next110, next111) =>
    bif (decide (next110 = at90) && decide (next111 = at91)) || (decide (next110 = first42) && decide (next111 = first43)) then (
      some l92)
    else (
      gd ((l92.length + 1) * 16 ≤ 140737488355328) <|
      D_putlogref07_Hull_L4 N l20 first42 first43 n next110 next111 (l92 ++ [(next110, next111)]))

def D_putlogref07_Hull (N : Nat) (l20 : List (Int × Int)) : Option (List (Int × Int)) :=
  (nth l20 0).bind fun (x21, x22) =>
  (D_putlogref07_Hull_L1 N l20 N 0 x21 x22).bind fun (first42, first43) =>
  (D_putlogref07_Hull_L4 N l20 first42 first43 N first42 first43 [(first42, first43)]).bind fun r118 =>
  some r118

def T66 (N : Nat) : List (Nat × Spec) := [(78, s78 N), (79, s79 N)]
theorem T66_ok (N : Nat) : TabOK Tryd.prog (tabOf (T66 N)) := tab_cons (fok78 N) (tab_cons (fok79 N) (tab_nil))

section
attribute [local go_sem] T66 s78 s79 e_ii de_ii rb_ii d_ii rowAt_zero rowAt_succ List.set_cons_succ List.isEmpty_map List.map_append List.map_eq_nil_iff ne_eq List.length_replicate takeMap dropMap List.length_set Option.isSome_some
theorem D_putlogref07_Hull_ok (N : Nat) (l20 : List (Int × Int)) (r : List (Int × Int)) (h : D_putlogref07_Hull N l20 = some r) : PCall Tryd.prog 66 [.sl 2 false (l20.map e_ii) [.i 0, .i 0]] (.sl 2 false (r.map e_ii) [.i 0, .i 0]) := by
  refine pcall_fn (T66_ok N) _ Tryd.func66 ok66 nt66 (by simp) fun _ => ?_
  have hS := T66_ok N
  have F := f0
  unfold ac66 rv66
  unfold D_putlogref07_Hull at h
  try simp only [gd_some, Option.bind_eq_some_iff] at h
  obtain ⟨⟨x21, x22⟩, hn22, h⟩ := h
  have hx22 : l20.getD 0 (0, 0) = (x21, x22) := ixs hn22 _
  have hb22 := (nth_some hn22).1
  replace F := fc hx22 F
  try simp only [gd_some, Option.bind_eq_some_iff] at h
  obtain ⟨o44, hL1, h⟩ := h
  refine go hS F ?_
  refine awp_cut (fun z : Int × Int × Nat => ⟨[(0, .sl 2 false (l20.map e_ii) [.i 0, .i 0]), (3, .box (103, 2) 0)], [(.c (103, 2) 0, .i z.1), (.c (103, 2) 1, .i z.2.1)], z.2.2⟩) (fun z => ((z.1, z.2.1) : Int × Int) = o44) (.x 0) ?_ ?_
  · refine awp_loop (fun y : Nat × Int × Int × Int × Nat => ⟨[(0, .sl 2 false (l20.map e_ii) [.i 0, .i 0]), (3, .box (103, 2) 0), (4, .i y.2.1)], [(.c (103, 2) 0, .i y.2.2.1), (.c (103, 2) 1, .i y.2.2.2.1)], y.2.2.2.2⟩) (fun y => D_putlogref07_Hull_L1 N l20 y.1 y.2.1 y.2.2.1 y.2.2.2.1 = some o44) (fun y => y.1) (N, 0, x21, x22, 3) hL1 ?_ ?_
    · exact leF F
    · rintro ⟨n, i31, first32, first33, c30⟩ hB2
      try simp only at hB2
      obtain _ | n := n
      · exact absurd hB2 (by simp [D_putlogref07_Hull_L1])
      rw [D_putlogref07_Hull_L1] at hB2
      refine go hS F ?_
      refine cb F (decide (i31 < (l20.length : Int))) (fun hc3 => ?_) (fun hc3 => ?_)
      · replace hB2 := cond_t hc3 hB2
        try simp only [gd_some, Option.bind_eq_some_iff] at hB2
        obtain ⟨⟨x34, x35⟩, hn35, hB2⟩ := hB2
        have hx35 : l20.getD i31.toNat (0, 0) = (x34, x35) := ixs hn35 _
        have hb35 := (nth_some hn35).1
        replace F := fc hx35 F
        refine go hS F ?_
        refine cb F ((decide (x35 < first33)) || ((decide (x35 = first33)) && (decide (x34 < first32)))) (fun hc4 => ?_) (fun hc4 => ?_)
        · replace hB2 := cond_t hc4 hB2
          try simp only [gd_some, Option.bind_eq_some_iff] at hB2
          obtain ⟨hv5, hB2⟩ := hB2
          simp only [I64] at hv5
          refine go hS F ?_
          exact backK_n (n, i31 + 1, x34, x35, c30 + 1 + 1 + 1 + 1) hB2 (Nat.lt_succ_self _) (leF F)
        · replace hB2 := cond_f hc4 hB2
          try simp only [gd_some, Option.bind_eq_some_iff] at hB2
          obtain ⟨hv6, hB2⟩ := hB2
          simp only [I64] at hv6
          refine go hS F ?_
          exact backK_n (n, i31 + 1, first32, first33, c30 + 1 + 1 + 1) hB2 (Nat.lt_succ_self _) (leF F)
      · replace hB2 := cond_f hc3 hB2
        refine go hS F ?_
        exact cutK_h (first32, first33, c30 + 1) (Option.some.inj hB2) (leF F)
  · rintro ⟨first42, first43, c41⟩ hz7
    subst hz7
    try simp only at h
    refine go hS F ?_
    refine awp_rebox 2200 6 2 (by show (6 : Nat) < 116; omega) (by omega) (by simp only [go_sem, seval, F] <;> eq_refl) (by simp only [go_sem, seval, F] <;> eq_refl) ?_
    try simp only [gd_some, Option.bind_eq_some_iff] at h
    obtain ⟨o119, hL8, h⟩ := h
    refine go hS F ?_
    refine awp_loop (fun y : Nat × Int × Int × (List (Int × Int)) × Nat × Nat => ⟨[(0, .sl 2 false (l20.map e_ii) [.i 0, .i 0]), (3, .box (103, 2) 0), (5, .own (701, c41 + 1) y.2.2.2.1.length), (6, .box (2200, y.2.2.2.2.1) 0)], [(.c (2200, y.2.2.2.2.1) 0, .i y.2.1), (.c (2200, y.2.2.2.2.1) 1, .i y.2.2.1), (.a (701, c41 + 1), .sl 2 true (y.2.2.2.1.map e_ii) [.i 0, .i 0]), (.c (103, 2) 0, .i first42), (.c (103, 2) 1, .i first43)], y.2.2.2.2.2⟩) (fun y => D_putlogref07_Hull_L4 N l20 first42 first43 y.1 y.2.1 y.2.2.1 y.2.2.2.1 = some o119) (fun y => y.1) (N, first42, first43, [(first42, first43)], c41 + 1 + 1 + 1, c41 + 1 + 1 + 1) hL8 ?_ ?_
    · exact leF F
    · rintro ⟨n, at90, at91, l92, v89, c88⟩ hB9
      try simp only at hB9
      obtain _ | n := n
      · exact absurd hB9 (by simp [D_putlogref07_Hull_L4])
      rw [D_putlogref07_Hull_L4] at hB9
      try simp only [gd_some, Option.bind_eq_some_iff] at hB9
      obtain ⟨o112, hL10, hB9⟩ := hB9
      refine go hS F ?_
      refine awp_cut (fun z : Int × Int × Nat => ⟨[(0, .sl 2 false (l20.map e_ii) [.i 0, .i 0]), (3, .box (103, 2) 0), (5, .own (701, c41 + 1) l92.length), (6, .box (2200, v89) 0), (7, .box (901, c88 + 1) 0)], [(.c (901, c88 + 1) 0, .i z.1), (.c (901, c88 + 1) 1, .i z.2.1), (.c (2200, v89) 0, .i at90), (.c (2200, v89) 1, .i at91), (.a (701, c41 + 1), .sl 2 true (l92.map e_ii) [.i 0, .i 0]), (.c (103, 2) 0, .i first42), (.c (103, 2) 1, .i first43)], z.2.2⟩) (fun z => ((z.1, z.2.1) : Int × Int) = o112) (.x 4) ?_ ?_
      · refine awp_loop (fun y : Nat × Int × Int × Int × Nat => ⟨[(0, .sl 2 false (l20.map e_ii) [.i 0, .i 0]), (3, .box (103, 2) 0), (5, .own (701, c41 + 1) l92.length), (6, .box (2200, v89) 0), (7, .box (901, c88 + 1) 0), (8, .i y.2.1)], [(.c (901, c88 + 1) 0, .i y.2.2.1), (.c (901, c88 + 1) 1, .i y.2.2.2.1), (.c (2200, v89) 0, .i at90), (.c (2200, v89) 1, .i at91), (.a (701, c41 + 1), .sl 2 true (l92.map e_ii) [.i 0, .i 0]), (.c (103, 2) 0, .i first42), (.c (103, 2) 1, .i first43)], y.2.2.2.2⟩) (fun y => D_putlogref07_Hull_L6 N l20 at90 at91 y.1 y.2.1 y.2.2.1 y.2.2.2.1 = some o112) (fun y => y.1) (N, 0, at90, at91, c88 + 1 + 1) hL10 ?_ ?_
        · exact leF F
        · rintro ⟨n, i97, next98, next99, c96⟩ hB11
          try simp only at hB11
          obtain _ | n := n
          · exact absurd hB11 (by simp [D_putlogref07_Hull_L6])
          rw [D_putlogref07_Hull_L6] at hB11
          refine go hS F ?_
          refine cb F (decide (i97 < (l20.length : Int))) (fun hc12 => ?_) (fun hc12 => ?_)
          · replace hB11 := cond_t hc12 hB11
            try simp only [gd_some, Option.bind_eq_some_iff] at hB11
            obtain ⟨⟨x100, x101⟩, hn101, hB11⟩ := hB11
            have hx101 : l20.getD i97.toNat (0, 0) = (x100, x101) := ixs hn101 _
            have hb101 := (nth_some hn101).1
            replace F := fc hx101 F
            refine go hS F ?_
            refine cb F (decide (x100 = at90) && decide (x101 = at91)) (fun hc13 => ?_) (fun hc13 => ?_)
            · replace hB11 := cond_t hc13 hB11
              try simp only [gd_some, Option.bind_eq_some_iff] at hB11
              obtain ⟨hv14, hB11⟩ := hB11
              simp only [I64] at hv14
              refine go hS F ?_
              exact backK_n (n, i97 + 1, next98, next99, c96 + 1 + 1 + 1) hB11 (Nat.lt_succ_self _) (leF F)
            · replace hB11 := cond_f hc13 hB11
              try simp only [gd_some, Option.bind_eq_some_iff] at hB11
              obtain ⟨r103, hr103, hv15, hv16, hB11⟩ := hB11
              replace F := fc hr103 F
              refine go hS F ?_
              refine cb F (((decide (next98 = at90) && decide (next99 = at91)) || (decide (r103 < 0))) || ((decide (r103 = 0)) && (decide ((D_putlogref07_far N at90 at91 next98 next99).getD 0 < (D_putlogref07_far N at90 at91 x100 x101).getD 0)))) (fun hc17 => ?_) (fun hc17 => ?_)
              · replace hB11 := cond_t hc17 hB11
                try simp only [gd_some, Option.bind_eq_some_iff] at hB11
                obtain ⟨hv18, hB11⟩ := hB11
                simp only [I64] at hv18
                refine go hS F ?_
                exact backK_n (n, i97 + 1, x100, x101, c96 + 1 + 1 + 1 + 1 + 1 + 1) hB11 (Nat.lt_succ_self _) (leF F)
              · replace hB11 := cond_f hc17 hB11
                try simp only [gd_some, Option.bind_eq_some_iff] at hB11
                obtain ⟨hv19, hB11⟩ := hB11
                simp only [I64] at hv19
                refine go hS F ?_
                exact backK_n (n, i97 + 1, next98, next99, c96 + 1 + 1 + 1 + 1 + 1) hB11 (Nat.lt_succ_self _) (leF F)
          · replace hB11 := cond_f hc12 hB11
            refine go hS F ?_
            exact cutK_h (next98, next99, c96 + 1) (Option.some.inj hB11) (leF F)
      · rintro ⟨next110, next111, c109⟩ hz20
        subst hz20
        try simp only at hB9
        refine go hS F ?_
        refine cb F ((decide (next110 = at90) && decide (next111 = at91)) || (decide (next110 = first42) && decide (next111 = first43))) (fun hc21 => ?_) (fun hc21 => ?_)
        · replace hB9 := cond_t hc21 hB9
          obtain rfl := Option.some.inj hB9
          try simp only at h
          obtain rfl := Option.some.inj h
          refine go hS F ?_
          exact fin F
        · replace hB9 := cond_f hc21 hB9
          try simp only [gd_some, Option.bind_eq_some_iff] at hB9
          obtain ⟨hv22, hB9⟩ := hB9
          refine go hS F ?_
          exact backK_n (n, next110, next111, l92 ++ [(next110, next111)], c109 + 1 + 1 + 1 + 1 + 1, c109 + 1 + 1 + 1 + 1 + 1) hB9 (Nat.lt_succ_self _) (leF F)
end

def s66 (N : Nat) : Spec
  | [.sl yl20 _ l20 _] => some (((yl20 = 2 ∨ l20 = []) ∧ l20 = (l20.map d_ii).map e_ii) ∧ (D_putlogref07_Hull N (l20.map d_ii)).isSome = true, .sl 2 false (((D_putlogref07_Hull N (l20.map d_ii)).getD []).map e_ii) [.i 0, .i 0])
  | _ => none
theorem fok66 (N : Nat) : FOK Tryd.prog 66 (s66 N) := ⟨of66, by
  intro args vc r h hv
  unfold s66 at h
  split at h
  · cases h
    obtain ⟨⟨hy0, hr0⟩, hs⟩ := hv
    obtain ⟨r, hr⟩ := Option.isSome_iff_exists.1 hs
    have hk := D_putlogref07_Hull_ok N _ r hr
    simp only [hr, Option.getD_some]
    refine PCall.arg ?_ hk
    simp only [wkL, wk, and_true, true_and, Bool.false_eq_true, false_implies, implies_true]
    repeat' (first | exact True.intro | assumption | apply And.intro)
  · simp at h⟩

/-! putlog/putlogref07.Made -/
def D_putlogref07_Made_L2 (N : Nat) (x120 : List (Int × Int)) (high122 : Int) (low121 : Int) : Nat → Int → (List (Int × Int)) → Option ((List (Int × Int)))
  | 0, _, _ => none
  | n + 1, i141, l142 =>
    bif (decide (i141 < (x120.length : Int))) && (decide (i141 < 8)) then (
      (nth x120 i141).bind fun (x143, x144) =>
      gd (I64 (high122 - low121)) <|
      gd (I64 ((high122 - low121) + 1)) <|
      (D_putlogref07_pick N x143 ((high122 - low121) + 1)).bind fun r146 =>
      gd (I64 (low121 + r146)) <|
      (D_putlogref07_pick N x144 41).bind fun r148 =>
      gd ((l142.length + 1) * 16 ≤ 140737488355328) <|
      gd (I64 (i141 + 1)) <|
      D_putlogref07_Made_L2 N x120 high122 low121 n (i141 + 1) (l142 ++ [(low121 + r146, r148)]))
    else (
      some l142)

def D_putlogref07_Made (N : Nat) (x120 : List (Int × Int)) (low121 : Int) (high122 : Int) : Option (List (Int × Int)) :=
  (D_putlogref07_Made_L2 N x120 high122 low121 N 0 []).bind fun l154 =>
  (bif decide (0 < (l154.length : Int)) then (
      (D_putlogref07_Hull N l154).bind fun r171 =>
      bif decide (3 ≤ (r171.length : Int)) then (
        some r171)
      else (
        some [(low121, 10), (high122, 10), (low121, 20)]))
    else (
      some [(low121, 10), (high122, 10), (low121, 20)]) : Option ((List (Int × Int)))).bind fun l174 =>
  bif decide (0 < (x120.length : Int)) then (
    (nth x120 0).bind fun (x181, x182) =>
    gd (I64 (x181.tdiv 41)) <|
    (D_putlogref07_pick N (x181.tdiv 41) (l174.length : Int)).bind fun r184 =>
    gd (0 ≤ r184 ∧ r184 ≤ (l174.length : Int)) <|
    gd (((l174.drop r184.toNat).length) * 16 ≤ 140737488355328) <|
    gd (0 ≤ 0 ∧ 0 ≤ r184 ∧ r184 ≤ (l174.length : Int)) <|
    gd (((l174.drop r184.toNat).length + (l174.take (r184.toNat - 0)).length) * 16 ≤ 140737488355328) <|
    some (l174.drop r184.toNat ++ (l174.take (r184.toNat - 0))))
  else (
    gd (0 ≤ 0 ∧ 0 ≤ (l174.length : Int)) <|
    gd (((l174.drop 0).length) * 16 ≤ 140737488355328) <|
    gd (0 ≤ 0 ∧ 0 ≤ 0 ∧ 0 ≤ (l174.length : Int)) <|
    gd (((l174.drop 0).length) * 16 ≤ 140737488355328) <|
    some (l174.drop 0))

def T52 (N : Nat) : List (Nat × Spec) := [(51, s51 N), (66, s66 N)]
theorem T52_ok (N : Nat) : TabOK Tryd.prog (tabOf (T52 N)) := tab_cons (fok51 N) (tab_cons (fok66 N) (tab_nil))

section
attribute [local go_sem] T52 s51 s66 e_ii de_ii rb_ii d_ii rowAt_zero rowAt_succ List.set_cons_succ List.isEmpty_map List.map_append List.map_eq_nil_iff ne_eq List.length_replicate takeMap dropMap List.length_set Option.isSome_some
theorem D_putlogref07_Made_ok (N : Nat) (x120 : List (Int × Int)) (low121 : Int) (high122 : Int) (r : List (Int × Int)) (h : D_putlogref07_Made N x120 low121 high122 = some r) : PCall Tryd.prog 52 [.sl 2 false (x120.map e_ii) [.i 0, .i 0], .i low121, .i high122] (.sl 2 false (r.map e_ii) [.i 0, .i 0]) := by
  refine pcall_fn (T52_ok N) _ Tryd.func52 ok52 nt52 (by simp) fun _ => ?_
  have hS := T52_ok N
  have F := f0
  unfold ac52 rv52
  unfold D_putlogref07_Made at h
  refine go hS F ?_
  refine awp_claimEk 1000001 8 2 [.i 0, .i 0] (by show (8 : Nat) < 80; omega) (by omega) (by simp only [go_sem, seval, F] <;> eq_refl) ?_
  try simp only [gd_some, Option.bind_eq_some_iff] at h
  obtain ⟨o155, hL1, h⟩ := h
  refine go hS F ?_
  refine awp_cut (fun z : (List (Int × Int)) × Nat => ⟨[(0, .sl 2 false (x120.map e_ii) [.i 0, .i 0]), (7, .own (106, 2) [(low121, 10), (high122, 10), (low121, 20)].length), (8, .own (1000001, 5) z.1.length)], [(.a (1000001, 5), .sl 2 true (z.1.map e_ii) [.i 0, .i 0]), (.a (106, 2), .sl 2 true ([(low121, 10), (high122, 10), (low121, 20)].map e_ii) [.i 0, .i 0])], z.2⟩) (fun z => (z.1 : (List (Int × Int))) = o155) (.x 0) ?_ ?_
  · refine awp_loop (fun y : Nat × Int × (List (Int × Int)) × Nat => ⟨[(0, .sl 2 false (x120.map e_ii) [.i 0, .i 0]), (1, .i low121), (2, .i high122), (7, .own (106, 2) [(low121, 10), (high122, 10), (low121, 20)].length), (8, .own (1000001, 5) y.2.2.1.length), (9, .i y.2.1)], [(.a (1000001, 5), .sl 2 true (y.2.2.1.map e_ii) [.i 0, .i 0]), (.a (106, 2), .sl 2 true ([(low121, 10), (high122, 10), (low121, 20)].map e_ii) [.i 0, .i 0])], y.2.2.2⟩) (fun y => D_putlogref07_Made_L2 N x120 high122 low121 y.1 y.2.1 y.2.2.1 = some o155) (fun y => y.1) (N, 0, [], 5) hL1 ?_ ?_
    · exact leF F
    · rintro ⟨n, i141, l142, c140⟩ hB2
      try simp only at hB2
      obtain _ | n := n
      · exact absurd hB2 (by simp [D_putlogref07_Made_L2])
      rw [D_putlogref07_Made_L2] at hB2
      refine go hS F ?_
      refine cb F ((decide (i141 < (x120.length : Int))) && (decide (i141 < 8))) (fun hc3 => ?_) (fun hc3 => ?_)
      · replace hB2 := cond_t hc3 hB2
        try simp only [gd_some, Option.bind_eq_some_iff] at hB2
        obtain ⟨⟨x143, x144⟩, hn144, hB2⟩ := hB2
        have hx144 : x120.getD i141.toNat (0, 0) = (x143, x144) := ixs hn144 _
        have hb144 := (nth_some hn144).1
        replace F := fc hx144 F
        try simp only [gd_some, Option.bind_eq_some_iff] at hB2
        obtain ⟨hv4, hv5, r146, hr146, hv6, r148, hr148, hv7, hv8, hB2⟩ := hB2
        simp only [I64] at hv4
        simp only [I64] at hv5
        simp only [I64] at hv6
        simp only [I64] at hv8
        replace F := fc hr148 (fc hr146 F)
        refine go hS F ?_
        exact backK_n (n, i141 + 1, l142 ++ [(low121 + r146, r148)], c140 + 1 + 1 + 1) hB2 (Nat.lt_succ_self _) (leF F)
      · replace hB2 := cond_f hc3 hB2
        refine go hS F ?_
        exact cutK_h (l142, c140 + 1) (Option.some.inj hB2) (leF F)
  · rintro ⟨l154, c153⟩ hz9
    subst hz9
    try simp only at h
    refine go hS F ?_
    refine awp_frzE 7 (by show (7 : Nat) < 80; omega) (by simp only [go_sem, seval, F] <;> eq_refl) (by simp only [go_sem, seval, F] <;> eq_refl) (by simp) ?_
    try simp only [gd_some, Option.bind_eq_some_iff] at h
    obtain ⟨o175, hL10, h⟩ := h
    refine go hS F ?_
    refine awp_cut (fun z : (List (Int × Int)) × Nat => ⟨[(0, .sl 2 false (x120.map e_ii) [.i 0, .i 0]), (7, .sl 2 false (z.1.map e_ii) [.i 0, .i 0])], [], z.2⟩) (fun z => (z.1 : (List (Int × Int))) = o175) .n ?_ ?_
    · refine go hS F ?_
      refine cb F (decide (0 < (l154.length : Int))) (fun hc11 => ?_) (fun hc11 => ?_)
      · replace hL10 := cond_t hc11 hL10
        try simp only [gd_some, Option.bind_eq_some_iff] at hL10
        obtain ⟨r171, hr171, hL10⟩ := hL10
        replace F := fc hr171 F
        refine go hS F ?_
        refine cb F (decide (3 ≤ (r171.length : Int))) (fun hc12 => ?_) (fun hc12 => ?_)
        · replace hL10 := cond_t hc12 hL10
          refine go hS F ?_
          exact cutK_h (r171, c153 + 1 + 1 + 1 + 1) (Option.some.inj hL10) (leF F)
        · replace hL10 := cond_f hc12 hL10
          refine go hS F ?_
          exact cutK_h ([(low121, 10), (high122, 10), (low121, 20)], c153 + 1 + 1 + 1) (Option.some.inj hL10) (leF F)
      · replace hL10 := cond_f hc11 hL10
        refine go hS F ?_
        exact cutK_h ([(low121, 10), (high122, 10), (low121, 20)], c153 + 1) (Option.some.inj hL10) (leF F)
    · rintro ⟨l174, c173⟩ hz13
      subst hz13
      try simp only at h
      refine go hS F ?_
      refine cb F (decide (0 < (x120.length : Int))) (fun hc14 => ?_) (fun hc14 => ?_)
      · replace h := cond_t hc14 h
        try simp only [gd_some, Option.bind_eq_some_iff] at h
        obtain ⟨⟨x181, x182⟩, hn182, h⟩ := h
        have hx182 : x120.getD 0 (0, 0) = (x181, x182) := ixs hn182 _
        have hb182 := (nth_some hn182).1
        replace F := fc hx182 F
        try simp only [gd_some, Option.bind_eq_some_iff] at h
        obtain ⟨hv15, r184, hr184, hv16, hv17, hv18, hv19, h⟩ := h
        simp only [I64] at hv15
        replace F := fc hr184 F
        obtain rfl := Option.some.inj h
        refine go hS F ?_
        exact fin F
      · replace h := cond_f hc14 h
        try simp only [gd_some, Option.bind_eq_some_iff] at h
        obtain ⟨hv20, hv21, hv22, hv23, h⟩ := h
        obtain rfl := Option.some.inj h
        refine go hS F ?_
        exact fin F
end

def s52 (N : Nat) : Spec
  | [.sl yx120 _ x120 _, .v (.int .i64 low121), .v (.int .i64 high122)] => some (((yx120 = 2 ∨ x120 = []) ∧ x120 = (x120.map d_ii).map e_ii) ∧ (D_putlogref07_Made N (x120.map d_ii) low121 high122).isSome = true, .sl 2 false (((D_putlogref07_Made N (x120.map d_ii) low121 high122).getD []).map e_ii) [.i 0, .i 0])
  | _ => none
theorem fok52 (N : Nat) : FOK Tryd.prog 52 (s52 N) := ⟨of52, by
  intro args vc r h hv
  unfold s52 at h
  split at h
  · cases h
    obtain ⟨⟨hy0, hr0⟩, hs⟩ := hv
    obtain ⟨r, hr⟩ := Option.isSome_iff_exists.1 hs
    have hk := D_putlogref07_Made_ok N _ _ _ r hr
    simp only [hr, Option.getD_some]
    refine PCall.arg ?_ hk
    simp only [wkL, wk, and_true, true_and, Bool.false_eq_true, false_implies, implies_true]
    repeat' (first | exact True.intro | assumption | apply And.intro)
  · simp at h⟩
end Go.Proofs.YtdabfcbelkjmgaaDoor.Am
