import Derived.Test.YtdabfcbelkjmgaaDoorD1
namespace Go.Proofs.YtdabfcbelkjmgaaDoor.Am
open Go
attribute [local irreducible] awp seqK blkK backK endK inlK restK rngK asgK itK
set_option maxRecDepth 100000
set_option maxHeartbeats 8000000
set_option linter.unusedSimpArgs false
set_option linter.unusedVariables false
/-! putlog/putlogref07.walk -/
def D_putlogref07_walk_L1 (N : Nat) (k188 : Int) (l186 : List (Int × Int)) : Nat → Int → (List (Int × Int)) → Option ((List (Int × Int)))
  | 0, _, _ => none
  | n + 1, i197, l198 =>
    bif decide (i197 ≠ k188) then (
      gd (I64 (i197 + 1)) <|
      gd ((l186.length : Int) ≠ 0) <|
      (nth l186 ((i197 + 1).tmod (l186.length : Int))).bind fun (x199, x200) =>
      gd ((l198.length + 1) * 16 ≤ 140737488355328) <|
      D_putlogref07_walk_L1 N k188 l186 n ((i197 + 1).tmod (l186.length : Int)) (l198 ++ [(x199, x200)]))
    else (
      some l198)

def D_putlogref07_walk (N : Nat) (l186 : List (Int × Int)) (i187 : Int) (k188 : Int) : Option (List (Int × Int)) :=
  (nth l186 i187).bind fun (x189, x190) =>
  (D_putlogref07_walk_L1 N k188 l186 N i187 [(x189, x190)]).bind fun l206 =>
  some l206

def T68 (N : Nat) : List (Nat × Spec) := []
theorem T68_ok (N : Nat) : TabOK Tryd.prog (tabOf (T68 N)) := tab_nil

section
attribute [local go_sem] T68 e_ii de_ii rb_ii d_ii rowAt_zero rowAt_succ List.set_cons_succ List.isEmpty_map List.map_append List.map_eq_nil_iff ne_eq List.length_replicate takeMap dropMap List.length_set Option.isSome_some
theorem D_putlogref07_walk_ok (N : Nat) (l186 : List (Int × Int)) (i187 : Int) (k188 : Int) (r : List (Int × Int)) (h : D_putlogref07_walk N l186 i187 k188 = some r) : PCall Tryd.prog 68 [.sl 2 false (l186.map e_ii) [.i 0, .i 0], .i i187, .i k188] (.sl 2 false (r.map e_ii) [.i 0, .i 0]) := by
  refine pcall_fn (T68_ok N) _ Tryd.func68 ok68 nt68 (by simp) fun _ => ?_
  have hS := T68_ok N
  have F := f0
  unfold ac68 rv68
  unfold D_putlogref07_walk at h
  try simp only [gd_some, Option.bind_eq_some_iff] at h
  obtain ⟨⟨x189, x190⟩, hn190, h⟩ := h
  have hx190 : l186.getD i187.toNat (0, 0) = (x189, x190) := ixs hn190 _
  have hb190 := (nth_some hn190).1
  replace F := fc hx190 F
  try simp only [gd_some, Option.bind_eq_some_iff] at h
  obtain ⟨o207, hL1, h⟩ := h
  refine go hS F ?_
  refine awp_cut (fun z : (List (Int × Int)) × Nat => ⟨[(7, .own (104, 2) z.1.length)], [(.a (104, 2), .sl 2 true (z.1.map e_ii) [.i 0, .i 0])], z.2⟩) (fun z => (z.1 : (List (Int × Int))) = o207) (.x 0) ?_ ?_
  · refine awp_loop (fun y : Nat × Int × (List (Int × Int)) × Nat => ⟨[(0, .sl 2 false (l186.map e_ii) [.i 0, .i 0]), (1, .i y.2.1), (2, .i k188), (7, .own (104, 2) y.2.2.1.length)], [(.a (104, 2), .sl 2 true (y.2.2.1.map e_ii) [.i 0, .i 0])], y.2.2.2⟩) (fun y => D_putlogref07_walk_L1 N k188 l186 y.1 y.2.1 y.2.2.1 = some o207) (fun y => y.1) (N, i187, [(x189, x190)], 2) hL1 ?_ ?_
    · exact leF F
    · rintro ⟨n, i197, l198, c196⟩ hB2
      try simp only at hB2
      obtain _ | n := n
      · exact absurd hB2 (by simp [D_putlogref07_walk_L1])
      rw [D_putlogref07_walk_L1] at hB2
      refine go hS F ?_
      refine cb F (decide (i197 ≠ k188)) (fun hc3 => ?_) (fun hc3 => ?_)
      · replace hB2 := cond_t hc3 hB2
        try simp only [gd_some, Option.bind_eq_some_iff] at hB2
        obtain ⟨hv4, hv5, ⟨x199, x200⟩, hn200, hB2⟩ := hB2
        simp only [I64] at hv4
        have hx200 : l186.getD ((i197 + 1).tmod (l186.length : Int)).toNat (0, 0) = (x199, x200) := ixs hn200 _
        have hb200 := (nth_some hn200).1
        replace F := fc hx200 F
        try simp only [gd_some, Option.bind_eq_some_iff] at hB2
        obtain ⟨hv6, hB2⟩ := hB2
        refine go hS F ?_
        exact backK_n (n, (i197 + 1).tmod (l186.length : Int), l198 ++ [(x199, x200)], c196 + 1 + 1 + 1) hB2 (Nat.lt_succ_self _) (leF F)
      · replace hB2 := cond_f hc3 hB2
        refine go hS F ?_
        exact cutK_h (l198, c196 + 1) (Option.some.inj hB2) (leF F)
  · rintro ⟨l206, c205⟩ hz7
    subst hz7
    try simp only at h
    obtain rfl := Option.some.inj h
    refine go hS F ?_
    exact fin F
end

def s68 (N : Nat) : Spec
  | [.sl yl186 _ l186 _, .v (.int .i64 i187), .v (.int .i64 k188)] => some (((yl186 = 2 ∨ l186 = []) ∧ l186 = (l186.map d_ii).map e_ii) ∧ (D_putlogref07_walk N (l186.map d_ii) i187 k188).isSome = true, .sl 2 false (((D_putlogref07_walk N (l186.map d_ii) i187 k188).getD []).map e_ii) [.i 0, .i 0])
  | _ => none
theorem fok68 (N : Nat) : FOK Tryd.prog 68 (s68 N) := ⟨of68, by
  intro args vc r h hv
  unfold s68 at h
  split at h
  · cases h
    obtain ⟨⟨hy0, hr0⟩, hs⟩ := hv
    obtain ⟨r, hr⟩ := Option.isSome_iff_exists.1 hs
    have hk := D_putlogref07_walk_ok N _ _ _ r hr
    simp only [hr, Option.getD_some]
    refine PCall.arg ?_ hk
    simp only [wkL, wk, and_true, true_and, Bool.false_eq_true, false_implies, implies_true]
    repeat' (first | exact True.intro | assumption | apply And.intro)
  · simp at h⟩

/-! putlog/putlogref07.Valid -/
def D_putlogref07_Valid_L1 (N : Nat) (l208 : List (Int × Int)) : Nat → Int → Option (Sum Unit Bool)
  | 0, _ => none
  | n + 1, i216 =>
    bif decide (i216 < (l208.length : Int)) then (
      (nth l208 i216).bind fun (x217, x218) =>
      (D_putlogref07_OnMap N x217 x218).bind fun r220 =>
      bif !r220 then (
        some (.inr false))
      else (
        gd (I64 (i216 + 1)) <|
        D_putlogref07_Valid_L1 N l208 n (i216 + 1)))
    else (
      some (.inl ()))

def D_putlogref07_Valid_L4 (N : Nat) (l208 : List (Int × Int)) (i237 : Int) : Nat → Int → Option (Sum Unit Bool)
  | 0, _ => none
  | n + 1, k240 =>
    bif decide (k240 < (l208.length : Int)) then (
      gd ((decide (k240 ≠ i237)) = true → (I64 (i237 + 1))) <|
      gd ((decide (k240 ≠ i237)) = true → ((l208.length : Int) ≠ 0)) <|
      gd (((decide (k240 ≠ i237)) && (decide (k240 ≠ (i237 + 1).tmod (l208.length : Int)))) = true → (0 ≤ i237 ∧ i237 < (l208.length : Int))) <|
      gd (((decide (k240 ≠ i237)) && (decide (k240 ≠ (i237 + 1).tmod (l208.length : Int)))) = true → ((D_putlogref07_end N l208 i237).isSome = true)) <|
      gd (((decide (k240 ≠ i237)) && (decide (k240 ≠ (i237 + 1).tmod (l208.length : Int)))) = true → (0 ≤ k240 ∧ k240 < (l208.length : Int))) <|
      gd (((decide (k240 ≠ i237)) && (decide (k240 ≠ (i237 + 1).tmod (l208.length : Int)))) = true → ((D_putlogref07_Turn N ((l208.getD i237.toNat (0, 0)).1) ((l208.getD i237.toNat (0, 0)).2) (((D_putlogref07_end N l208 i237).getD (0, 0)).1) (((D_putlogref07_end N l208 i237).getD (0, 0)).2) ((l208.getD k240.toNat (0, 0)).1) ((l208.getD k240.toNat (0, 0)).2)).isSome = true)) <|
      bif ((decide (k240 ≠ i237)) && (decide (k240 ≠ (i237 + 1).tmod (l208.length : Int)))) && (decide ((D_putlogref07_Turn N ((l208.getD i237.toNat (0, 0)).1) ((l208.getD i237.toNat (0, 0)).2) (((D_putlogref07_end N l208 i237).getD (0, 0)).1) (((D_putlogref07_end N l208 i237).getD (0, 0)).2) ((l208.getD k240.toNat (0, 0)).1) ((l208.getD k240.toNat (0, 0)).2)).getD 0 ≤ 0)) then (
        some (.inr false))
      else (
        gd (I64 (k240 + 1)) <|
        D_putlogref07_Valid_L4 N l208 i237 n (k240 + 1)))
    else (
      some (.inl ()))

def D_putlogref07_Valid_L2 (N : Nat) (l208 : List (Int × Int)) : Nat → Int → Option (Sum Unit Bool)
  | 0, _ => none
  | n + 1, i237 =>
    bif decide (i237 < (l208.length : Int)) then (
      (D_putlogref07_Valid_L4 N l208 i237 N 0).bind fun o245 => match o245 with
        | .inl () => (
          gd (I64 (i237 + 1)) <|
          D_putlogref07_Valid_L2 N l208 n (i237 + 1))
        | .inr r244 => (
          some (.inr r244)))
    else (
      some (.inl ()))

def D_putlogref07_Valid (N : Nat) (l208 : List (Int × Int)) : Option Bool :=
  bif (decide ((l208.length : Int) < 3)) || (decide (8 < (l208.length : Int))) then (
    some false)
  else (
    (D_putlogref07_Valid_L1 N l208 N 0).bind fun o226 => match o226 with
      | .inl () => (
        (D_putlogref07_Valid_L2 N l208 N 0).bind fun o250 => match o250 with
          | .inl () => (
            some true)
          | .inr r249 => (
            some r249))
      | .inr r225 => (
        some r225))

def T67 (N : Nat) : List (Nat × Spec) := [(80, s80 N), (81, s81 N), (78, s78 N)]
theorem T67_ok (N : Nat) : TabOK Tryd.prog (tabOf (T67 N)) := tab_cons (fok80 N) (tab_cons (fok81 N) (tab_cons (fok78 N) (tab_nil)))

section
attribute [local go_sem] T67 s80 s81 s78 e_ii de_ii rb_ii d_ii rowAt_zero rowAt_succ List.set_cons_succ List.isEmpty_map List.map_append List.map_eq_nil_iff ne_eq List.length_replicate takeMap dropMap List.length_set Option.isSome_some
theorem D_putlogref07_Valid_ok (N : Nat) (l208 : List (Int × Int)) (r : Bool) (h : D_putlogref07_Valid N l208 = some r) : PCall Tryd.prog 67 [.sl 2 false (l208.map e_ii) [.i 0, .i 0]] (.b r) := by
  refine pcall_fn (T67_ok N) _ Tryd.func67 ok67 nt67 (by simp) fun _ => ?_
  have hS := T67_ok N
  have F := f0
  unfold ac67 rv67
  unfold D_putlogref07_Valid at h
  refine go hS F ?_
  refine cb F ((decide ((l208.length : Int) < 3)) || (decide (8 < (l208.length : Int)))) (fun hc1 => ?_) (fun hc1 => ?_)
  · replace h := cond_t hc1 h
    obtain rfl := Option.some.inj h
    refine go hS F ?_
    exact fin F
  · replace h := cond_f hc1 h
    try simp only [gd_some, Option.bind_eq_some_iff] at h
    obtain ⟨o226, hL2, h⟩ := h
    refine go hS F ?_
    refine awp_cut (fun z : Nat => ⟨[(0, .sl 2 false (l208.map e_ii) [.i 0, .i 0])], [], z⟩) (fun z => (.inl () : Sum Unit Bool) = o226) (.x 0) ?_ ?_
    · refine awp_loop (fun y : Nat × Int × Nat => ⟨[(0, .sl 2 false (l208.map e_ii) [.i 0, .i 0]), (3, .i y.2.1)], [], y.2.2⟩) (fun y => D_putlogref07_Valid_L1 N l208 y.1 y.2.1 = some o226) (fun y => y.1) (N, 0, 3) hL2 ?_ ?_
      · exact leF F
      · rintro ⟨n, i216, c215⟩ hB3
        try simp only at hB3
        obtain _ | n := n
        · exact absurd hB3 (by simp [D_putlogref07_Valid_L1])
        rw [D_putlogref07_Valid_L1] at hB3
        refine go hS F ?_
        refine cb F (decide (i216 < (l208.length : Int))) (fun hc4 => ?_) (fun hc4 => ?_)
        · replace hB3 := cond_t hc4 hB3
          try simp only [gd_some, Option.bind_eq_some_iff] at hB3
          obtain ⟨⟨x217, x218⟩, hn218, hB3⟩ := hB3
          have hx218 : l208.getD i216.toNat (0, 0) = (x217, x218) := ixs hn218 _
          have hb218 := (nth_some hn218).1
          replace F := fc hx218 F
          try simp only [gd_some, Option.bind_eq_some_iff] at hB3
          obtain ⟨r220, hr220, hB3⟩ := hB3
          replace F := fc hr220 F
          refine go hS F ?_
          refine cb F (!r220) (fun hc5 => ?_) (fun hc5 => ?_)
          · replace hB3 := cond_t hc5 hB3
            obtain rfl := Option.some.inj hB3
            try simp only at h
            obtain rfl := Option.some.inj h
            refine go hS F ?_
            exact fin F
          · replace hB3 := cond_f hc5 hB3
            try simp only [gd_some, Option.bind_eq_some_iff] at hB3
            obtain ⟨hv6, hB3⟩ := hB3
            simp only [I64] at hv6
            refine go hS F ?_
            exact backK_n (n, i216 + 1, c215 + 1 + 1 + 1) hB3 (Nat.lt_succ_self _) (leF F)
        · replace hB3 := cond_f hc4 hB3
          refine go hS F ?_
          exact cutK_h (c215 + 1) (Option.some.inj hB3) (leF F)
    · rintro c224 hz7
      subst hz7
      try simp only at h
      try simp only [gd_some, Option.bind_eq_some_iff] at h
      obtain ⟨o250, hL8, h⟩ := h
      refine go hS F ?_
      refine awp_cut (fun z : Nat => ⟨[], [], z⟩) (fun z => (.inl () : Sum Unit Bool) = o250) (.x 2) ?_ ?_
      · refine awp_loop (fun y : Nat × Int × Nat => ⟨[(0, .sl 2 false (l208.map e_ii) [.i 0, .i 0]), (4, .i y.2.1)], [], y.2.2⟩) (fun y => D_putlogref07_Valid_L2 N l208 y.1 y.2.1 = some o250) (fun y => y.1) (N, 0, c224 + 1) hL8 ?_ ?_
        · exact leF F
        · rintro ⟨n, i237, c236⟩ hB9
          try simp only at hB9
          obtain _ | n := n
          · exact absurd hB9 (by simp [D_putlogref07_Valid_L2])
          rw [D_putlogref07_Valid_L2] at hB9
          refine go hS F ?_
          refine cb F (decide (i237 < (l208.length : Int))) (fun hc10 => ?_) (fun hc10 => ?_)
          · replace hB9 := cond_t hc10 hB9
            try simp only [gd_some, Option.bind_eq_some_iff] at hB9
            obtain ⟨o245, hL11, hB9⟩ := hB9
            refine go hS F ?_
            refine awp_cut (fun z : Nat => ⟨[(0, .sl 2 false (l208.map e_ii) [.i 0, .i 0]), (4, .i i237)], [], z⟩) (fun z => (.inl () : Sum Unit Bool) = o245) (.x 4) ?_ ?_
            · refine awp_loop (fun y : Nat × Int × Nat => ⟨[(0, .sl 2 false (l208.map e_ii) [.i 0, .i 0]), (4, .i i237), (5, .i y.2.1)], [], y.2.2⟩) (fun y => D_putlogref07_Valid_L4 N l208 i237 y.1 y.2.1 = some o245) (fun y => y.1) (N, 0, c236 + 1 + 1) hL11 ?_ ?_
              · exact leF F
              · rintro ⟨n, k240, c239⟩ hB12
                try simp only at hB12
                obtain _ | n := n
                · exact absurd hB12 (by simp [D_putlogref07_Valid_L4])
                rw [D_putlogref07_Valid_L4] at hB12
                refine go hS F ?_
                refine cb F (decide (k240 < (l208.length : Int))) (fun hc13 => ?_) (fun hc13 => ?_)
                · replace hB12 := cond_t hc13 hB12
                  try simp only [gd_some, Option.bind_eq_some_iff] at hB12
                  obtain ⟨hv14, hv15, hv16, hv17, hv18, hv19, hB12⟩ := hB12
                  simp only [I64] at hv14
                  refine go hS F ?_
                  refine cb F (((decide (k240 ≠ i237)) && (decide (k240 ≠ (i237 + 1).tmod (l208.length : Int)))) && (decide ((D_putlogref07_Turn N ((l208.getD i237.toNat (0, 0)).1) ((l208.getD i237.toNat (0, 0)).2) (((D_putlogref07_end N l208 i237).getD (0, 0)).1) (((D_putlogref07_end N l208 i237).getD (0, 0)).2) ((l208.getD k240.toNat (0, 0)).1) ((l208.getD k240.toNat (0, 0)).2)).getD 0 ≤ 0))) (fun hc20 => ?_) (fun hc20 => ?_)
                  · replace hB12 := cond_t hc20 hB12
                    obtain rfl := Option.some.inj hB12
                    try simp only at hB9
                    obtain rfl := Option.some.inj hB9
                    try simp only at h
                    obtain rfl := Option.some.inj h
                    refine go hS F ?_
                    exact fin F
                  · replace hB12 := cond_f hc20 hB12
                    try simp only [gd_some, Option.bind_eq_some_iff] at hB12
                    obtain ⟨hv21, hB12⟩ := hB12
                    simp only [I64] at hv21
                    refine go hS F ?_
                    exact backK_n (n, k240 + 1, c239 + 1 + 1 + 1) hB12 (Nat.lt_succ_self _) (leF F)
                · replace hB12 := cond_f hc13 hB12
                  refine go hS F ?_
                  exact cutK_h (c239 + 1) (Option.some.inj hB12) (leF F)
            · rintro c243 hz22
              subst hz22
              try simp only at hB9
              try simp only [gd_some, Option.bind_eq_some_iff] at hB9
              obtain ⟨hv23, hB9⟩ := hB9
              simp only [I64] at hv23
              refine go hS F ?_
              exact backK_n (n, i237 + 1, c243 + 1) hB9 (Nat.lt_succ_self _) (leF F)
          · replace hB9 := cond_f hc10 hB9
            refine go hS F ?_
            exact cutK_h (c236 + 1) (Option.some.inj hB9) (leF F)
      · rintro c248 hz24
        subst hz24
        try simp only at h
        obtain rfl := Option.some.inj h
        refine go hS F ?_
        exact fin F
end

def s67 (N : Nat) : Spec
  | [.sl yl208 _ l208 _] => some (((yl208 = 2 ∨ l208 = []) ∧ l208 = (l208.map d_ii).map e_ii) ∧ (D_putlogref07_Valid N (l208.map d_ii)).isSome = true, .b ((D_putlogref07_Valid N (l208.map d_ii)).getD false))
  | _ => none
theorem fok67 (N : Nat) : FOK Tryd.prog 67 (s67 N) := ⟨of67, by
  intro args vc r h hv
  unfold s67 at h
  split at h
  · cases h
    obtain ⟨⟨hy0, hr0⟩, hs⟩ := hv
    obtain ⟨r, hr⟩ := Option.isSome_iff_exists.1 hs
    have hk := D_putlogref07_Valid_ok N _ r hr
    simp only [hr, Option.getD_some]
    refine PCall.arg ?_ hk
    simp only [wkL, wk, and_true, true_and, Bool.false_eq_true, false_implies, implies_true]
    repeat' (first | exact True.intro | assumption | apply And.intro)
  · simp at h⟩

/-! putlog/putlogref07.Cut -/
def D_putlogref07_Cut (N : Nat) (l251 : List (Int × Int)) (i252 : Int) (k253 : Int) : Option ((List (Int × Int)) × (List (Int × Int)) × Int) :=
  (D_putlogref07_Valid N l251).bind fun r254 =>
  bif ((((!r254) || (decide (i252 < 0))) || (decide ((l251.length : Int) ≤ i252))) || (decide (k253 < 0))) || (decide ((l251.length : Int) ≤ k253)) then (
    some ([], [], 70))
  else (
    (D_putlogref07_walk N l251 i252 k253).bind fun r256 =>
    (D_putlogref07_walk N l251 k253 i252).bind fun r258 =>
    bif (decide ((r256.length : Int) < 3)) || (decide ((r258.length : Int) < 3)) then (
      some ([], [], 70))
    else (
      some (r256, r258, 0)))

def T53 (N : Nat) : List (Nat × Spec) := [(67, s67 N), (68, s68 N)]
theorem T53_ok (N : Nat) : TabOK Tryd.prog (tabOf (T53 N)) := tab_cons (fok67 N) (tab_cons (fok68 N) (tab_nil))

section
attribute [local go_sem] T53 s67 s68 e_ii de_ii rb_ii d_ii rowAt_zero rowAt_succ List.set_cons_succ List.isEmpty_map List.map_append List.map_eq_nil_iff ne_eq List.length_replicate takeMap dropMap List.length_set Option.isSome_some
theorem D_putlogref07_Cut_ok (N : Nat) (l251 : List (Int × Int)) (i252 : Int) (k253 : Int) (r : (List (Int × Int)) × (List (Int × Int)) × Int) (h : D_putlogref07_Cut N l251 i252 k253 = some r) : PCall Tryd.prog 53 [.sl 2 false (l251.map e_ii) [.i 0, .i 0], .i i252, .i k253] (.tup [.sl 2 false (r.1.map e_ii) [.i 0, .i 0], .sl 2 false (r.2.1.map e_ii) [.i 0, .i 0], .i r.2.2]) := by
  refine pcall_fn (T53_ok N) _ Tryd.func53 ok53 nt53 (by simp) fun _ => ?_
  have hS := T53_ok N
  have F := f0
  unfold ac53 rv53
  unfold D_putlogref07_Cut at h
  try simp only [gd_some, Option.bind_eq_some_iff] at h
  obtain ⟨r254, hr254, h⟩ := h
  replace F := fc hr254 F
  refine go hS F ?_
  refine cb F (((((!r254) || (decide (i252 < 0))) || (decide ((l251.length : Int) ≤ i252))) || (decide (k253 < 0))) || (decide ((l251.length : Int) ≤ k253))) (fun hc1 => ?_) (fun hc1 => ?_)
  · replace h := cond_t hc1 h
    obtain rfl := Option.some.inj h
    refine go hS F ?_
    exact fin F
  · replace h := cond_f hc1 h
    try simp only [gd_some, Option.bind_eq_some_iff] at h
    obtain ⟨r256, hr256, r258, hr258, h⟩ := h
    replace F := fc hr258 (fc hr256 F)
    refine go hS F ?_
    refine cb F ((decide ((r256.length : Int) < 3)) || (decide ((r258.length : Int) < 3))) (fun hc2 => ?_) (fun hc2 => ?_)
    · replace h := cond_t hc2 h
      obtain rfl := Option.some.inj h
      refine go hS F ?_
      exact fin F
    · replace h := cond_f hc2 h
      obtain rfl := Option.some.inj h
      refine go hS F ?_
      exact fin F
end

def s53 (N : Nat) : Spec
  | [.sl yl251 _ l251 _, .v (.int .i64 i252), .v (.int .i64 k253)] => some (((yl251 = 2 ∨ l251 = []) ∧ l251 = (l251.map d_ii).map e_ii) ∧ (D_putlogref07_Cut N (l251.map d_ii) i252 k253).isSome = true, .tup [.sl 2 false ((((D_putlogref07_Cut N (l251.map d_ii) i252 k253).getD ([], [], 0)).1).map e_ii) [.i 0, .i 0], .sl 2 false ((((D_putlogref07_Cut N (l251.map d_ii) i252 k253).getD ([], [], 0)).2.1).map e_ii) [.i 0, .i 0], .i (((D_putlogref07_Cut N (l251.map d_ii) i252 k253).getD ([], [], 0)).2.2)])
  | _ => none
theorem fok53 (N : Nat) : FOK Tryd.prog 53 (s53 N) := ⟨of53, by
  intro args vc r h hv
  unfold s53 at h
  split at h
  · cases h
    obtain ⟨⟨hy0, hr0⟩, hs⟩ := hv
    obtain ⟨r, hr⟩ := Option.isSome_iff_exists.1 hs
    have hk := D_putlogref07_Cut_ok N _ _ _ r hr
    simp only [hr, Option.getD_some]
    refine PCall.arg ?_ hk
    simp only [wkL, wk, and_true, true_and, Bool.false_eq_true, false_implies, implies_true]
    repeat' (first | exact True.intro | assumption | apply And.intro)
  · simp at h⟩

/-! putlog/putlogref07.Pair -/
def D_putlogref07_Pair_L14 (N : Nat) (x260 : List (Int × Int)) : Nat → Int → (List (Int × Int)) → Option ((List (Int × Int)))
  | 0, _, _ => none
  | n + 1, i445, l446 =>
    bif (decide (i445 < (x260.length : Int))) && (decide (i445 < 6)) then (
      (nth x260 i445).bind fun (x447, x448) =>
      gd ((l446.length + 1) * 16 ≤ 140737488355328) <|
      gd (I64 (i445 + 1)) <|
      D_putlogref07_Pair_L14 N x260 n (i445 + 1) (l446 ++ [(x447, x448)]))
    else (
      some l446)

def D_putlogref07_Pair_L16 (N : Nat) (y261 : List (Int × Int)) : Nat → Int → (List (Int × Int)) → Option ((List (Int × Int)))
  | 0, _, _ => none
  | n + 1, i466, l467 =>
    bif (decide (i466 < (y261.length : Int))) && (decide (i466 < 6)) then (
      (nth y261 i466).bind fun (x468, x469) =>
      gd ((l467.length + 1) * 16 ≤ 140737488355328) <|
      gd (I64 (i466 + 1)) <|
      D_putlogref07_Pair_L16 N y261 n (i466 + 1) (l467 ++ [(x468, x469)]))
    else (
      some l467)

def D_putlogref07_Pair (N : Nat) (x260 : List (Int × Int)) (y261 : List (Int × Int)) (how262 : Int) : Option ((List (Int × Int)) × (List (Int × Int))) :=
  (D_putlogref07_pick N how262 3).bind fun r263 =>
  bif decide (r263 = 0) then (
    (D_putlogref07_Made N x260 0 40).bind fun r377 =>
    (D_putlogref07_Made N y261 0 40).bind fun r379 =>
    some (r377, r379))
  else (
    bif decide (r263 = 1) then (
      (D_putlogref07_Pair_L14 N x260 N 0 []).bind fun l454 =>
      (D_putlogref07_Pair_L16 N y261 N 0 []).bind fun l475 =>
      gd (I64 (how262.tdiv 3)) <|
      (D_putlogref07_pick N (how262.tdiv 3) 30).bind fun r477 =>
      gd (I64 (r477 + 1)) <|
      gd (I64 (how262.tdiv 90)) <|
      (D_putlogref07_pick N (how262.tdiv 90) 10).bind fun r479 =>
      gd (I64 ((r477 + 1) + r479)) <|
      gd ((l454.length + 2) * 16 ≤ 140737488355328) <|
      gd (I64 (how262.tdiv 900)) <|
      (D_putlogref07_pick N (how262.tdiv 900) 40).bind fun r481 =>
      gd (I64 (how262.tdiv 7)) <|
      (D_putlogref07_pick N (how262.tdiv 7) 40).bind fun r483 =>
      gd ((l475.length + 2) * 16 ≤ 140737488355328) <|
      (D_putlogref07_Made N (l454 ++ [(20, r477), (20, (r477 + 1) + r479)]) 0 20).bind fun r485 =>
      (D_putlogref07_Made N (l475 ++ [(0, r481), (0, r483)]) 20 40).bind fun r487 =>
      some (r485, r487))
    else (
      (D_putlogref07_Made N x260 0 40).bind fun r489 =>
      gd (I64 (how262.tdiv 3)) <|
      (D_putlogref07_pick N (how262.tdiv 3) (r489.length : Int)).bind fun r491 =>
      gd (I64 (r491 + 2)) <|
      gd ((r489.length : Int) ≠ 0) <|
      (D_putlogref07_Cut N r489 r491 ((r491 + 2).tmod (r489.length : Int))).bind fun (r493, r494, r495) =>
      bif decide (r495 ≠ 0) then (
        (D_putlogref07_Made N y261 0 40).bind fun r499 =>
        some (r489, r499))
      else (
        some (r493, r494))))

def T29 (N : Nat) : List (Nat × Spec) := [(51, s51 N), (52, s52 N), (53, s53 N)]
theorem T29_ok (N : Nat) : TabOK Tryd.prog (tabOf (T29 N)) := tab_cons (fok51 N) (tab_cons (fok52 N) (tab_cons (fok53 N) (tab_nil)))

section
attribute [local go_sem] T29 s51 s52 s53 e_ii de_ii rb_ii d_ii rowAt_zero rowAt_succ List.set_cons_succ List.isEmpty_map List.map_append List.map_eq_nil_iff ne_eq List.length_replicate takeMap dropMap List.length_set Option.isSome_some
theorem D_putlogref07_Pair_ok (N : Nat) (x260 : List (Int × Int)) (y261 : List (Int × Int)) (how262 : Int) (r : (List (Int × Int)) × (List (Int × Int))) (h : D_putlogref07_Pair N x260 y261 how262 = some r) : PCall Tryd.prog 29 [.sl 2 false (x260.map e_ii) [.i 0, .i 0], .sl 2 false (y261.map e_ii) [.i 0, .i 0], .i how262] (.tup [.sl 2 false (r.1.map e_ii) [.i 0, .i 0], .sl 2 false (r.2.map e_ii) [.i 0, .i 0]]) := by
  refine pcall_fn (T29_ok N) _ Tryd.func29 ok29 nt29 (by simp) fun _ => ?_
  have hS := T29_ok N
  have F := f0
  unfold ac29 rv29
  unfold D_putlogref07_Pair at h
  try simp only [gd_some, Option.bind_eq_some_iff] at h
  obtain ⟨r263, hr263, h⟩ := h
  replace F := fc hr263 F
  refine go hS F ?_
  refine cb F (decide (r263 = 0)) (fun hc1 => ?_) (fun hc1 => ?_)
  · replace h := cond_t hc1 h
    try simp only [gd_some, Option.bind_eq_some_iff] at h
    obtain ⟨r377, hr377, r379, hr379, h⟩ := h
    replace F := fc hr379 (fc hr377 F)
    obtain rfl := Option.some.inj h
    refine go hS F ?_
    exact fin F
  · replace h := cond_f hc1 h
    refine go hS F ?_
    refine cb F (decide (r263 = 1)) (fun hc2 => ?_) (fun hc2 => ?_)
    · replace h := cond_t hc2 h
      refine go hS F ?_
      refine awp_claimEk 1000007 8 2 [.i 0, .i 0] (by show (8 : Nat) < 118; omega) (by omega) (by simp only [go_sem, seval, F] <;> eq_refl) ?_
      try simp only [gd_some, Option.bind_eq_some_iff] at h
      obtain ⟨o455, hL3, h⟩ := h
      refine go hS F ?_
      refine awp_cut (fun z : (List (Int × Int)) × Nat => ⟨[(1, .sl 2 false (y261.map e_ii) [.i 0, .i 0]), (2, .i how262), (8, .own (1000007, 8) z.1.length), (9, .sl 0 true [] [])], [(.a (1000007, 8), .sl 2 true (z.1.map e_ii) [.i 0, .i 0])], z.2⟩) (fun z => (z.1 : (List (Int × Int))) = o455) (.x 1) ?_ ?_
      · refine awp_loop (fun y : Nat × Int × (List (Int × Int)) × Nat => ⟨[(0, .sl 2 false (x260.map e_ii) [.i 0, .i 0]), (1, .sl 2 false (y261.map e_ii) [.i 0, .i 0]), (2, .i how262), (8, .own (1000007, 8) y.2.2.1.length), (9, .sl 0 true [] []), (10, .i y.2.1)], [(.a (1000007, 8), .sl 2 true (y.2.2.1.map e_ii) [.i 0, .i 0])], y.2.2.2⟩) (fun y => D_putlogref07_Pair_L14 N x260 y.1 y.2.1 y.2.2.1 = some o455) (fun y => y.1) (N, 0, [], 8) hL3 ?_ ?_
        · exact leF F
        · rintro ⟨n, i445, l446, c444⟩ hB4
          try simp only at hB4
          obtain _ | n := n
          · exact absurd hB4 (by simp [D_putlogref07_Pair_L14])
          rw [D_putlogref07_Pair_L14] at hB4
          refine go hS F ?_
          refine cb F ((decide (i445 < (x260.length : Int))) && (decide (i445 < 6))) (fun hc5 => ?_) (fun hc5 => ?_)
          · replace hB4 := cond_t hc5 hB4
            try simp only [gd_some, Option.bind_eq_some_iff] at hB4
            obtain ⟨⟨x447, x448⟩, hn448, hB4⟩ := hB4
            have hx448 : x260.getD i445.toNat (0, 0) = (x447, x448) := ixs hn448 _
            have hb448 := (nth_some hn448).1
            replace F := fc hx448 F
            try simp only [gd_some, Option.bind_eq_some_iff] at hB4
            obtain ⟨hv6, hv7, hB4⟩ := hB4
            simp only [I64] at hv7
            refine go hS F ?_
            exact backK_n (n, i445 + 1, l446 ++ [(x447, x448)], c444 + 1 + 1 + 1) hB4 (Nat.lt_succ_self _) (leF F)
          · replace hB4 := cond_f hc5 hB4
            refine go hS F ?_
            exact cutK_h (l446, c444 + 1) (Option.some.inj hB4) (leF F)
      · rintro ⟨l454, c453⟩ hz8
        subst hz8
        try simp only at h
        refine go hS F ?_
        refine awp_claimEk 1000008 9 2 [.i 0, .i 0] (by show (9 : Nat) < 118; omega) (by omega) (by simp only [go_sem, seval, F] <;> eq_refl) ?_
        try simp only [gd_some, Option.bind_eq_some_iff] at h
        obtain ⟨o476, hL9, h⟩ := h
        refine go hS F ?_
        refine awp_cut (fun z : (List (Int × Int)) × Nat => ⟨[(2, .i how262), (8, .own (1000007, 8) l454.length), (9, .own (1000008, c453 + 1 + 1) z.1.length)], [(.a (1000008, c453 + 1 + 1), .sl 2 true (z.1.map e_ii) [.i 0, .i 0]), (.a (1000007, 8), .sl 2 true (l454.map e_ii) [.i 0, .i 0])], z.2⟩) (fun z => (z.1 : (List (Int × Int))) = o476) (.x 3) ?_ ?_
        · refine awp_loop (fun y : Nat × Int × (List (Int × Int)) × Nat => ⟨[(1, .sl 2 false (y261.map e_ii) [.i 0, .i 0]), (2, .i how262), (8, .own (1000007, 8) l454.length), (9, .own (1000008, c453 + 1 + 1) y.2.2.1.length), (11, .i y.2.1)], [(.a (1000008, c453 + 1 + 1), .sl 2 true (y.2.2.1.map e_ii) [.i 0, .i 0]), (.a (1000007, 8), .sl 2 true (l454.map e_ii) [.i 0, .i 0])], y.2.2.2⟩) (fun y => D_putlogref07_Pair_L16 N y261 y.1 y.2.1 y.2.2.1 = some o476) (fun y => y.1) (N, 0, [], c453 + 1 + 1) hL9 ?_ ?_
          · exact leF F
          · rintro ⟨n, i466, l467, c465⟩ hB10
            try simp only at hB10
            obtain _ | n := n
            · exact absurd hB10 (by simp [D_putlogref07_Pair_L16])
            rw [D_putlogref07_Pair_L16] at hB10
            refine go hS F ?_
            refine cb F ((decide (i466 < (y261.length : Int))) && (decide (i466 < 6))) (fun hc11 => ?_) (fun hc11 => ?_)
            · replace hB10 := cond_t hc11 hB10
              try simp only [gd_some, Option.bind_eq_some_iff] at hB10
              obtain ⟨⟨x468, x469⟩, hn469, hB10⟩ := hB10
              have hx469 : y261.getD i466.toNat (0, 0) = (x468, x469) := ixs hn469 _
              have hb469 := (nth_some hn469).1
              replace F := fc hx469 F
              try simp only [gd_some, Option.bind_eq_some_iff] at hB10
              obtain ⟨hv12, hv13, hB10⟩ := hB10
              simp only [I64] at hv13
              refine go hS F ?_
              exact backK_n (n, i466 + 1, l467 ++ [(x468, x469)], c465 + 1 + 1 + 1) hB10 (Nat.lt_succ_self _) (leF F)
            · replace hB10 := cond_f hc11 hB10
              refine go hS F ?_
              exact cutK_h (l467, c465 + 1) (Option.some.inj hB10) (leF F)
        · rintro ⟨l475, c474⟩ hz14
          subst hz14
          try simp only at h
          try simp only [gd_some, Option.bind_eq_some_iff] at h
          obtain ⟨hv15, r477, hr477, hv16, hv17, r479, hr479, hv18, hv19, hv20, r481, hr481, hv21, r483, hr483, hv22, r485, hr485, r487, hr487, h⟩ := h
          simp only [I64] at hv15
          simp only [I64] at hv16
          simp only [I64] at hv17
          simp only [I64] at hv18
          simp only [I64] at hv20
          simp only [I64] at hv21
          replace F := fc hr487 (fc hr485 (fc hr483 (fc hr481 (fc hr479 (fc hr477 F)))))
          obtain rfl := Option.some.inj h
          refine go hS F ?_
          exact fin F
    · replace h := cond_f hc2 h
      try simp only [gd_some, Option.bind_eq_some_iff] at h
      obtain ⟨r489, hr489, hv23, r491, hr491, hv24, hv25, ⟨r493, r494, r495⟩, hr495, h⟩ := h
      simp only [I64] at hv23
      simp only [I64] at hv24
      replace F := fc hr495 (fc hr491 (fc hr489 F))
      refine go hS F ?_
      refine cb F (decide (r495 ≠ 0)) (fun hc26 => ?_) (fun hc26 => ?_)
      · replace h := cond_t hc26 h
        try simp only [gd_some, Option.bind_eq_some_iff] at h
        obtain ⟨r499, hr499, h⟩ := h
        replace F := fc hr499 F
        obtain rfl := Option.some.inj h
        refine go hS F ?_
        exact fin F
      · replace h := cond_f hc26 h
        obtain rfl := Option.some.inj h
        refine go hS F ?_
        exact fin F
end

def s29 (N : Nat) : Spec
  | [.sl yx260 _ x260 _, .sl yy261 _ y261 _, .v (.int .i64 how262)] => some (((yx260 = 2 ∨ x260 = []) ∧ x260 = (x260.map d_ii).map e_ii) ∧ ((yy261 = 2 ∨ y261 = []) ∧ y261 = (y261.map d_ii).map e_ii) ∧ (D_putlogref07_Pair N (x260.map d_ii) (y261.map d_ii) how262).isSome = true, .tup [.sl 2 false ((((D_putlogref07_Pair N (x260.map d_ii) (y261.map d_ii) how262).getD ([], [])).1).map e_ii) [.i 0, .i 0], .sl 2 false ((((D_putlogref07_Pair N (x260.map d_ii) (y261.map d_ii) how262).getD ([], [])).2).map e_ii) [.i 0, .i 0]])
  | _ => none
theorem fok29 (N : Nat) : FOK Tryd.prog 29 (s29 N) := ⟨of29, by
  intro args vc r h hv
  unfold s29 at h
  split at h
  · cases h
    obtain ⟨⟨hy0, hr0⟩, ⟨hy1, hr1⟩, hs⟩ := hv
    obtain ⟨r, hr⟩ := Option.isSome_iff_exists.1 hs
    have hk := D_putlogref07_Pair_ok N _ _ _ r hr
    simp only [hr, Option.getD_some]
    refine PCall.arg ?_ hk
    simp only [wkL, wk, and_true, true_and, Bool.false_eq_true, false_implies, implies_true]
    repeat' (first | exact True.intro | assumption | apply And.intro)
  · simp at h⟩
end Go.Proofs.YtdabfcbelkjmgaaDoor.Am
