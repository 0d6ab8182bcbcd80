import Derived.Test.YtojciffnkbfbhaaD1
import Derived.Test.YtojciffnkbfbhaaAc2
namespace Go.Proofs.Ytojciffnkbfbhaa.Am
open Go
attribute [local irreducible] awp seqK blkK backK endK inlK restK rngK asgK itK
set_option maxRecDepth 100000
set_option maxHeartbeats 8000000
set_option linter.unusedSimpArgs false
set_option linter.unusedVariables false
/-! putlog/putlogref07.walk -/
def D_putlogref07_walk_L1 (N : Nat) (k210 : Int) (l208 : List (Int × Int)) : Nat → Int → (List (Int × Int)) → Option ((List (Int × Int)))
  | 0, _, _ => none
  | n + 1, i219, l220 =>
    bif decide (i219 ≠ k210) then (
      gd (I64 (i219 + 1)) <|
      gd ((l208.length : Int) ≠ 0) <|
      (nth l208 ((i219 + 1).tmod (l208.length : Int))).bind fun (x221, x222) =>
      gd ((l220.length + 1) * 16 ≤ 140737488355328) <|
      D_putlogref07_walk_L1 N k210 l208 n ((i219 + 1).tmod (l208.length : Int)) (l220 ++ [(x221, x222)]))
    else (
      some l220)

def D_putlogref07_walk (N : Nat) (l208 : List (Int × Int)) (i209 : Int) (k210 : Int) : Option (List (Int × Int)) :=
  (nth l208 i209).bind fun (x211, x212) =>
  (D_putlogref07_walk_L1 N k210 l208 N i209 [(x211, x212)]).bind fun l228 =>
  some l228

def T58 (N : Nat) : List (Nat × Spec) := []
theorem T58_ok (N : Nat) : TabOK Try.prog (tabOf (T58 N)) := tab_nil

section
attribute [local go_sem] T58 e_ii de_ii rb_ii d_ii rowAt_zero rowAt_succ List.set_cons_succ List.isEmpty_map List.map_append List.map_eq_nil_iff ne_eq List.length_replicate takeMap dropMap List.length_set Option.isSome_some
theorem D_putlogref07_walk_ok (N : Nat) (l208 : List (Int × Int)) (i209 : Int) (k210 : Int) (r : List (Int × Int)) (h : D_putlogref07_walk N l208 i209 k210 = some r) : PCall Try.prog 58 [.sl 2 false (l208.map e_ii) [.i 0, .i 0], .i i209, .i k210] (.sl 2 false (r.map e_ii) [.i 0, .i 0]) := by
  refine pcall_fn (T58_ok N) _ Try.func58 ok58 nt58 (by simp) fun _ => ?_
  have hS := T58_ok N
  have F := f0
  unfold ac58 rv58
  unfold D_putlogref07_walk at h
  try simp only [gd_some, Option.bind_eq_some_iff] at h
  obtain ⟨⟨x211, x212⟩, hn212, h⟩ := h
  have hx212 : l208.getD i209.toNat (0, 0) = (x211, x212) := ixs hn212 _
  have hb212 := (nth_some hn212).1
  replace F := fc hx212 F
  try simp only [gd_some, Option.bind_eq_some_iff] at h
  obtain ⟨o229, hL1, h⟩ := h
  refine go hS F ?_
  refine awp_cut (fun z : (List (Int × Int)) × Nat => ⟨[(7, .own (104, 2) z.1.length)], [(.a (104, 2), .sl 2 true (z.1.map e_ii) [.i 0, .i 0])], z.2⟩) (fun z => (z.1 : (List (Int × Int))) = o229) (.x 0) ?_ ?_
  · refine awp_loop (fun y : Nat × Int × (List (Int × Int)) × Nat => ⟨[(0, .sl 2 false (l208.map e_ii) [.i 0, .i 0]), (1, .i y.2.1), (2, .i k210), (7, .own (104, 2) y.2.2.1.length)], [(.a (104, 2), .sl 2 true (y.2.2.1.map e_ii) [.i 0, .i 0])], y.2.2.2⟩) (fun y => D_putlogref07_walk_L1 N k210 l208 y.1 y.2.1 y.2.2.1 = some o229) (fun y => y.1) (N, i209, [(x211, x212)], 2) hL1 ?_ ?_
    · exact leF F
    · rintro ⟨n, i219, l220, c218⟩ hB2
      try simp only at hB2
      obtain _ | n := n
      · exact absurd hB2 (by simp [D_putlogref07_walk_L1])
      rw [D_putlogref07_walk_L1] at hB2
      refine go hS F ?_
      refine cb F (decide (i219 ≠ k210)) (fun hc3 => ?_) (fun hc3 => ?_)
      · replace hB2 := cond_t hc3 hB2
        try simp only [gd_some, Option.bind_eq_some_iff] at hB2
        obtain ⟨hv4, hv5, ⟨x221, x222⟩, hn222, hB2⟩ := hB2
        simp only [I64] at hv4
        have hx222 : l208.getD ((i219 + 1).tmod (l208.length : Int)).toNat (0, 0) = (x221, x222) := ixs hn222 _
        have hb222 := (nth_some hn222).1
        replace F := fc hx222 F
        try simp only [gd_some, Option.bind_eq_some_iff] at hB2
        obtain ⟨hv6, hB2⟩ := hB2
        refine go hS F ?_
        exact backK_n (n, (i219 + 1).tmod (l208.length : Int), l220 ++ [(x221, x222)], c218 + 1 + 1 + 1) hB2 (Nat.lt_succ_self _) (leF F)
      · replace hB2 := cond_f hc3 hB2
        refine go hS F ?_
        exact cutK_h (l220, c218 + 1) (Option.some.inj hB2) (leF F)
  · rintro ⟨l228, c227⟩ hz7
    subst hz7
    try simp only at h
    obtain rfl := Option.some.inj h
    refine go hS F ?_
    exact fin F
end

def s58 (N : Nat) : Spec
  | [.sl yl208 _ l208 _, .v (.int .i64 i209), .v (.int .i64 k210)] => some (((yl208 = 2 ∨ l208 = []) ∧ l208 = (l208.map d_ii).map e_ii) ∧ (D_putlogref07_walk N (l208.map d_ii) i209 k210).isSome = true, .sl 2 false (((D_putlogref07_walk N (l208.map d_ii) i209 k210).getD []).map e_ii) [.i 0, .i 0])
  | _ => none
theorem fok58 (N : Nat) : FOK Try.prog 58 (s58 N) := ⟨of58, by
  intro args vc r h hv
  unfold s58 at h
  split at h
  · cases h
    obtain ⟨⟨hy0, hr0⟩, hs⟩ := hv
    obtain ⟨r, hr⟩ := Option.isSome_iff_exists.1 hs
    have hk := D_putlogref07_walk_ok N _ _ _ r hr
    simp only [hr, Option.getD_some]
    refine PCall.arg ?_ hk
    simp only [wkL, wk, and_true, true_and, Bool.false_eq_true, false_implies, implies_true]
    repeat' (first | exact True.intro | assumption | apply And.intro)
  · simp at h⟩

/-! putlog/putlogref07.Valid -/
def D_putlogref07_Valid_L1 (N : Nat) (l230 : List (Int × Int)) : Nat → Int → Option (Sum Unit Bool)
  | 0, _ => none
  | n + 1, i238 =>
    bif decide (i238 < (l230.length : Int)) then (
      (nth l230 i238).bind fun (x239, x240) =>
      (D_putlogref07_OnMap N x239 x240).bind fun r242 =>
      bif !r242 then (
        some (.inr false))
      else (
        gd (I64 (i238 + 1)) <|
        D_putlogref07_Valid_L1 N l230 n (i238 + 1)))
    else (
      some (.inl ()))

def D_putlogref07_Valid_L4 (N : Nat) (l230 : List (Int × Int)) (i259 : Int) : Nat → Int → Option (Sum Unit Bool)
  | 0, _ => none
  | n + 1, k262 =>
    bif decide (k262 < (l230.length : Int)) then (
      gd ((decide (k262 ≠ i259)) = true → (I64 (i259 + 1))) <|
      gd ((decide (k262 ≠ i259)) = true → ((l230.length : Int) ≠ 0)) <|
      gd (((decide (k262 ≠ i259)) && (decide (k262 ≠ (i259 + 1).tmod (l230.length : Int)))) = true → (0 ≤ i259 ∧ i259 < (l230.length : Int))) <|
      gd (((decide (k262 ≠ i259)) && (decide (k262 ≠ (i259 + 1).tmod (l230.length : Int)))) = true → ((D_putlogref07_end N l230 i259).isSome = true)) <|
      gd (((decide (k262 ≠ i259)) && (decide (k262 ≠ (i259 + 1).tmod (l230.length : Int)))) = true → (0 ≤ k262 ∧ k262 < (l230.length : Int))) <|
      gd (((decide (k262 ≠ i259)) && (decide (k262 ≠ (i259 + 1).tmod (l230.length : Int)))) = true → ((D_putlogref07_Turn N ((l230.getD i259.toNat (0, 0)).1) ((l230.getD i259.toNat (0, 0)).2) (((D_putlogref07_end N l230 i259).getD (0, 0)).1) (((D_putlogref07_end N l230 i259).getD (0, 0)).2) ((l230.getD k262.toNat (0, 0)).1) ((l230.getD k262.toNat (0, 0)).2)).isSome = true)) <|
      bif ((decide (k262 ≠ i259)) && (decide (k262 ≠ (i259 + 1).tmod (l230.length : Int)))) && (decide ((D_putlogref07_Turn N ((l230.getD i259.toNat (0, 0)).1) ((l230.getD i259.toNat (0, 0)).2) (((D_putlogref07_end N l230 i259).getD (0, 0)).1) (((D_putlogref07_end N l230 i259).getD (0, 0)).2) ((l230.getD k262.toNat (0, 0)).1) ((l230.getD k262.toNat (0, 0)).2)).getD 0 ≤ 0)) then (
        some (.inr false))
      else (
        gd (I64 (k262 + 1)) <|
        D_putlogref07_Valid_L4 N l230 i259 n (k262 + 1)))
    else (
      some (.inl ()))

def D_putlogref07_Valid_L2 (N : Nat) (l230 : List (Int × Int)) : Nat → Int → Option (Sum Unit Bool)
  | 0, _ => none
  | n + 1, i259 =>
    bif decide (i259 < (l230.length : Int)) then (
      (D_putlogref07_Valid_L4 N l230 i259 N 0).bind fun o267 => match o267 with
        | .inl () => (
          gd (I64 (i259 + 1)) <|
          D_putlogref07_Valid_L2 N l230 n (i259 + 1))
        | .inr r266 => (
          some (.inr r266)))
    else (
      some (.inl ()))

def D_putlogref07_Valid (N : Nat) (l230 : List (Int × Int)) : Option Bool :=
  bif (decide ((l230.length : Int) < 3)) || (decide (8 < (l230.length : Int))) then (
    some false)
  else (
    (D_putlogref07_Valid_L1 N l230 N 0).bind fun o248 => match o248 with
      | .inl () => (
        (D_putlogref07_Valid_L2 N l230 N 0).bind fun o272 => match o272 with
          | .inl () => (
            some true)
          | .inr r271 => (
            some r271))
      | .inr r247 => (
        some r247))

def T37 (N : Nat) : List (Nat × Spec) := [(31, s31 N), (59, s59 N), (28, s28 N)]
theorem T37_ok (N : Nat) : TabOK Try.prog (tabOf (T37 N)) := tab_cons (fok31 N) (tab_cons (fok59 N) (tab_cons (fok28 N) (tab_nil)))

section
attribute [local go_sem] T37 s31 s59 s28 e_ii de_ii rb_ii d_ii rowAt_zero rowAt_succ List.set_cons_succ List.isEmpty_map List.map_append List.map_eq_nil_iff ne_eq List.length_replicate takeMap dropMap List.length_set Option.isSome_some
theorem D_putlogref07_Valid_ok (N : Nat) (l230 : List (Int × Int)) (r : Bool) (h : D_putlogref07_Valid N l230 = some r) : PCall Try.prog 37 [.sl 2 false (l230.map e_ii) [.i 0, .i 0]] (.b r) := by
  refine pcall_fn (T37_ok N) _ Try.func37 ok37 nt37 (by simp) fun _ => ?_
  have hS := T37_ok N
  have F := f0
  unfold ac37 rv37
  unfold D_putlogref07_Valid at h
  refine go hS F ?_
  refine cb F ((decide ((l230.length : Int) < 3)) || (decide (8 < (l230.length : Int)))) (fun hc1 => ?_) (fun hc1 => ?_)
  · replace h := cond_t hc1 h
    obtain rfl := Option.some.inj h
    refine go hS F ?_
    exact fin F
  · replace h := cond_f hc1 h
    try simp only [gd_some, Option.bind_eq_some_iff] at h
    obtain ⟨o248, hL2, h⟩ := h
    refine go hS F ?_
    refine awp_cut (fun z : Nat => ⟨[(0, .sl 2 false (l230.map e_ii) [.i 0, .i 0])], [], z⟩) (fun z => (.inl () : Sum Unit Bool) = o248) (.x 0) ?_ ?_
    · refine awp_loop (fun y : Nat × Int × Nat => ⟨[(0, .sl 2 false (l230.map e_ii) [.i 0, .i 0]), (3, .i y.2.1)], [], y.2.2⟩) (fun y => D_putlogref07_Valid_L1 N l230 y.1 y.2.1 = some o248) (fun y => y.1) (N, 0, 3) hL2 ?_ ?_
      · exact leF F
      · rintro ⟨n, i238, c237⟩ hB3
        try simp only at hB3
        obtain _ | n := n
        · exact absurd hB3 (by simp [D_putlogref07_Valid_L1])
        rw [D_putlogref07_Valid_L1] at hB3
        refine go hS F ?_
        refine cb F (decide (i238 < (l230.length : Int))) (fun hc4 => ?_) (fun hc4 => ?_)
        · replace hB3 := cond_t hc4 hB3
          try simp only [gd_some, Option.bind_eq_some_iff] at hB3
          obtain ⟨⟨x239, x240⟩, hn240, hB3⟩ := hB3
          have hx240 : l230.getD i238.toNat (0, 0) = (x239, x240) := ixs hn240 _
          have hb240 := (nth_some hn240).1
          replace F := fc hx240 F
          try simp only [gd_some, Option.bind_eq_some_iff] at hB3
          obtain ⟨r242, hr242, hB3⟩ := hB3
          replace F := fc hr242 F
          refine go hS F ?_
          refine cb F (!r242) (fun hc5 => ?_) (fun hc5 => ?_)
          · replace hB3 := cond_t hc5 hB3
            obtain rfl := Option.some.inj hB3
            try simp only at h
            obtain rfl := Option.some.inj h
            refine go hS F ?_
            exact fin F
          · replace hB3 := cond_f hc5 hB3
            try simp only [gd_some, Option.bind_eq_some_iff] at hB3
            obtain ⟨hv6, hB3⟩ := hB3
            simp only [I64] at hv6
            refine go hS F ?_
            exact backK_n (n, i238 + 1, c237 + 1 + 1 + 1) hB3 (Nat.lt_succ_self _) (leF F)
        · replace hB3 := cond_f hc4 hB3
          refine go hS F ?_
          exact cutK_h (c237 + 1) (Option.some.inj hB3) (leF F)
    · rintro c246 hz7
      subst hz7
      try simp only at h
      try simp only [gd_some, Option.bind_eq_some_iff] at h
      obtain ⟨o272, hL8, h⟩ := h
      refine go hS F ?_
      refine awp_cut (fun z : Nat => ⟨[], [], z⟩) (fun z => (.inl () : Sum Unit Bool) = o272) (.x 2) ?_ ?_
      · refine awp_loop (fun y : Nat × Int × Nat => ⟨[(0, .sl 2 false (l230.map e_ii) [.i 0, .i 0]), (4, .i y.2.1)], [], y.2.2⟩) (fun y => D_putlogref07_Valid_L2 N l230 y.1 y.2.1 = some o272) (fun y => y.1) (N, 0, c246 + 1) hL8 ?_ ?_
        · exact leF F
        · rintro ⟨n, i259, c258⟩ hB9
          try simp only at hB9
          obtain _ | n := n
          · exact absurd hB9 (by simp [D_putlogref07_Valid_L2])
          rw [D_putlogref07_Valid_L2] at hB9
          refine go hS F ?_
          refine cb F (decide (i259 < (l230.length : Int))) (fun hc10 => ?_) (fun hc10 => ?_)
          · replace hB9 := cond_t hc10 hB9
            try simp only [gd_some, Option.bind_eq_some_iff] at hB9
            obtain ⟨o267, hL11, hB9⟩ := hB9
            refine go hS F ?_
            refine awp_cut (fun z : Nat => ⟨[(0, .sl 2 false (l230.map e_ii) [.i 0, .i 0]), (4, .i i259)], [], z⟩) (fun z => (.inl () : Sum Unit Bool) = o267) (.x 4) ?_ ?_
            · refine awp_loop (fun y : Nat × Int × Nat => ⟨[(0, .sl 2 false (l230.map e_ii) [.i 0, .i 0]), (4, .i i259), (5, .i y.2.1)], [], y.2.2⟩) (fun y => D_putlogref07_Valid_L4 N l230 i259 y.1 y.2.1 = some o267) (fun y => y.1) (N, 0, c258 + 1 + 1) hL11 ?_ ?_
              · exact leF F
              · rintro ⟨n, k262, c261⟩ hB12
                try simp only at hB12
                obtain _ | n := n
                · exact absurd hB12 (by simp [D_putlogref07_Valid_L4])
                rw [D_putlogref07_Valid_L4] at hB12
                refine go hS F ?_
                refine cb F (decide (k262 < (l230.length : Int))) (fun hc13 => ?_) (fun hc13 => ?_)
                · replace hB12 := cond_t hc13 hB12
                  try simp only [gd_some, Option.bind_eq_some_iff] at hB12
                  obtain ⟨hv14, hv15, hv16, hv17, hv18, hv19, hB12⟩ := hB12
                  simp only [I64] at hv14
                  refine go hS F ?_
                  refine cb F (((decide (k262 ≠ i259)) && (decide (k262 ≠ (i259 + 1).tmod (l230.length : Int)))) && (decide ((D_putlogref07_Turn N ((l230.getD i259.toNat (0, 0)).1) ((l230.getD i259.toNat (0, 0)).2) (((D_putlogref07_end N l230 i259).getD (0, 0)).1) (((D_putlogref07_end N l230 i259).getD (0, 0)).2) ((l230.getD k262.toNat (0, 0)).1) ((l230.getD k262.toNat (0, 0)).2)).getD 0 ≤ 0))) (fun hc20 => ?_) (fun hc20 => ?_)
                  · replace hB12 := cond_t hc20 hB12
                    obtain rfl := Option.some.inj hB12
                    try simp only at hB9
                    obtain rfl := Option.some.inj hB9
                    try simp only at h
                    obtain rfl := Option.some.inj h
                    refine go hS F ?_
                    exact fin F
                  · replace hB12 := cond_f hc20 hB12
                    try simp only [gd_some, Option.bind_eq_some_iff] at hB12
                    obtain ⟨hv21, hB12⟩ := hB12
                    simp only [I64] at hv21
                    refine go hS F ?_
                    exact backK_n (n, k262 + 1, c261 + 1 + 1 + 1) hB12 (Nat.lt_succ_self _) (leF F)
                · replace hB12 := cond_f hc13 hB12
                  refine go hS F ?_
                  exact cutK_h (c261 + 1) (Option.some.inj hB12) (leF F)
            · rintro c265 hz22
              subst hz22
              try simp only at hB9
              try simp only [gd_some, Option.bind_eq_some_iff] at hB9
              obtain ⟨hv23, hB9⟩ := hB9
              simp only [I64] at hv23
              refine go hS F ?_
              exact backK_n (n, i259 + 1, c265 + 1) hB9 (Nat.lt_succ_self _) (leF F)
          · replace hB9 := cond_f hc10 hB9
            refine go hS F ?_
            exact cutK_h (c258 + 1) (Option.some.inj hB9) (leF F)
      · rintro c270 hz24
        subst hz24
        try simp only at h
        obtain rfl := Option.some.inj h
        refine go hS F ?_
        exact fin F
end

def s37 (N : Nat) : Spec
  | [.sl yl230 _ l230 _] => some (((yl230 = 2 ∨ l230 = []) ∧ l230 = (l230.map d_ii).map e_ii) ∧ (D_putlogref07_Valid N (l230.map d_ii)).isSome = true, .b ((D_putlogref07_Valid N (l230.map d_ii)).getD false))
  | _ => none
theorem fok37 (N : Nat) : FOK Try.prog 37 (s37 N) := ⟨of37, by
  intro args vc r h hv
  unfold s37 at h
  split at h
  · cases h
    obtain ⟨⟨hy0, hr0⟩, hs⟩ := hv
    obtain ⟨r, hr⟩ := Option.isSome_iff_exists.1 hs
    have hk := D_putlogref07_Valid_ok N _ r hr
    simp only [hr, Option.getD_some]
    refine PCall.arg ?_ hk
    simp only [wkL, wk, and_true, true_and, Bool.false_eq_true, false_implies, implies_true]
    repeat' (first | exact True.intro | assumption | apply And.intro)
  · simp at h⟩

/-! putlog/putlogref07.Cut -/
def D_putlogref07_Cut (N : Nat) (l273 : List (Int × Int)) (i274 : Int) (k275 : Int) : Option ((List (Int × Int)) × (List (Int × Int)) × Int) :=
  (D_putlogref07_Valid N l273).bind fun r276 =>
  bif ((((!r276) || (decide (i274 < 0))) || (decide ((l273.length : Int) ≤ i274))) || (decide (k275 < 0))) || (decide ((l273.length : Int) ≤ k275)) then (
    some ([], [], 70))
  else (
    (D_putlogref07_walk N l273 i274 k275).bind fun r278 =>
    (D_putlogref07_walk N l273 k275 i274).bind fun r280 =>
    bif (decide ((r278.length : Int) < 3)) || (decide ((r280.length : Int) < 3)) then (
      some ([], [], 70))
    else (
      some (r278, r280, 0)))

def T34 (N : Nat) : List (Nat × Spec) := [(37, s37 N), (58, s58 N)]
theorem T34_ok (N : Nat) : TabOK Try.prog (tabOf (T34 N)) := tab_cons (fok37 N) (tab_cons (fok58 N) (tab_nil))

section
attribute [local go_sem] T34 s37 s58 e_ii de_ii rb_ii d_ii rowAt_zero rowAt_succ List.set_cons_succ List.isEmpty_map List.map_append List.map_eq_nil_iff ne_eq List.length_replicate takeMap dropMap List.length_set Option.isSome_some
theorem D_putlogref07_Cut_ok (N : Nat) (l273 : List (Int × Int)) (i274 : Int) (k275 : Int) (r : (List (Int × Int)) × (List (Int × Int)) × Int) (h : D_putlogref07_Cut N l273 i274 k275 = some r) : PCall Try.prog 34 [.sl 2 false (l273.map e_ii) [.i 0, .i 0], .i i274, .i k275] (.tup [.sl 2 false (r.1.map e_ii) [.i 0, .i 0], .sl 2 false (r.2.1.map e_ii) [.i 0, .i 0], .i r.2.2]) := by
  refine pcall_fn (T34_ok N) _ Try.func34 ok34 nt34 (by simp) fun _ => ?_
  have hS := T34_ok N
  have F := f0
  unfold ac34 rv34
  unfold D_putlogref07_Cut at h
  try simp only [gd_some, Option.bind_eq_some_iff] at h
  obtain ⟨r276, hr276, h⟩ := h
  replace F := fc hr276 F
  refine go hS F ?_
  refine cb F (((((!r276) || (decide (i274 < 0))) || (decide ((l273.length : Int) ≤ i274))) || (decide (k275 < 0))) || (decide ((l273.length : Int) ≤ k275))) (fun hc1 => ?_) (fun hc1 => ?_)
  · replace h := cond_t hc1 h
    obtain rfl := Option.some.inj h
    refine go hS F ?_
    exact fin F
  · replace h := cond_f hc1 h
    try simp only [gd_some, Option.bind_eq_some_iff] at h
    obtain ⟨r278, hr278, r280, hr280, h⟩ := h
    replace F := fc hr280 (fc hr278 F)
    refine go hS F ?_
    refine cb F ((decide ((r278.length : Int) < 3)) || (decide ((r280.length : Int) < 3))) (fun hc2 => ?_) (fun hc2 => ?_)
    · replace h := cond_t hc2 h
      obtain rfl := Option.some.inj h
      refine go hS F ?_
      exact fin F
    · replace h := cond_f hc2 h
      obtain rfl := Option.some.inj h
      refine go hS F ?_
      exact fin F
end

def s34 (N : Nat) : Spec
  | [.sl yl273 _ l273 _, .v (.int .i64 i274), .v (.int .i64 k275)] => some (((yl273 = 2 ∨ l273 = []) ∧ l273 = (l273.map d_ii).map e_ii) ∧ (D_putlogref07_Cut N (l273.map d_ii) i274 k275).isSome = true, .tup [.sl 2 false ((((D_putlogref07_Cut N (l273.map d_ii) i274 k275).getD ([], [], 0)).1).map e_ii) [.i 0, .i 0], .sl 2 false ((((D_putlogref07_Cut N (l273.map d_ii) i274 k275).getD ([], [], 0)).2.1).map e_ii) [.i 0, .i 0], .i (((D_putlogref07_Cut N (l273.map d_ii) i274 k275).getD ([], [], 0)).2.2)])
  | _ => none
theorem fok34 (N : Nat) : FOK Try.prog 34 (s34 N) := ⟨of34, by
  intro args vc r h hv
  unfold s34 at h
  split at h
  · cases h
    obtain ⟨⟨hy0, hr0⟩, hs⟩ := hv
    obtain ⟨r, hr⟩ := Option.isSome_iff_exists.1 hs
    have hk := D_putlogref07_Cut_ok N _ _ _ r hr
    simp only [hr, Option.getD_some]
    refine PCall.arg ?_ hk
    simp only [wkL, wk, and_true, true_and, Bool.false_eq_true, false_implies, implies_true]
    repeat' (first | exact True.intro | assumption | apply And.intro)
  · simp at h⟩

/-! putlog/putlogref07.Pair -/
def D_putlogref07_Pair_L14 (N : Nat) (x282 : List (Int × Int)) : Nat → Int → (List (Int × Int)) → Option ((List (Int × Int)))
  | 0, _, _ => none
  | n + 1, i467, l468 =>
    bif (decide (i467 < (x282.length : Int))) && (decide (i467 < 6)) then (
      (nth x282 i467).bind fun (x469, x470) =>
      gd ((l468.length + 1) * 16 ≤ 140737488355328) <|
      gd (I64 (i467 + 1)) <|
      D_putlogref07_Pair_L14 N x282 n (i467 + 1) (l468 ++ [(x469, x470)]))
    else (
      some l468)

def D_putlogref07_Pair_L16 (N : Nat) (y283 : List (Int × Int)) : Nat → Int → (List (Int × Int)) → Option ((List (Int × Int)))
  | 0, _, _ => none
  | n + 1, i488, l489 =>
    bif (decide (i488 < (y283.length : Int))) && (decide (i488 < 6)) then (
      (nth y283 i488).bind fun (x490, x491) =>
      gd ((l489.length + 1) * 16 ≤ 140737488355328) <|
      gd (I64 (i488 + 1)) <|
      D_putlogref07_Pair_L16 N y283 n (i488 + 1) (l489 ++ [(x490, x491)]))
    else (
      some l489)

def D_putlogref07_Pair (N : Nat) (x282 : List (Int × Int)) (y283 : List (Int × Int)) (how284 : Int) : Option ((List (Int × Int)) × (List (Int × Int))) :=
  (D_putlogref07_pick N how284 3).bind fun r285 =>
  bif decide (r285 = 0) then (
    (D_putlogref07_Made N x282 0 40).bind fun r399 =>
    (D_putlogref07_Made N y283 0 40).bind fun r401 =>
    some (r399, r401))
  else (
    bif decide (r285 = 1) then (
      (D_putlogref07_Pair_L14 N x282 N 0 []).bind fun l476 =>
      (D_putlogref07_Pair_L16 N y283 N 0 []).bind fun l497 =>
      gd (I64 (how284.tdiv 3)) <|
      (D_putlogref07_pick N (how284.tdiv 3) 30).bind fun r499 =>
      gd (I64 (r499 + 1)) <|
      gd (I64 (how284.tdiv 90)) <|
      (D_putlogref07_pick N (how284.tdiv 90) 10).bind fun r501 =>
      gd (I64 ((r499 + 1) + r501)) <|
      gd ((l476.length + 2) * 16 ≤ 140737488355328) <|
      gd (I64 (how284.tdiv 900)) <|
      (D_putlogref07_pick N (how284.tdiv 900) 40).bind fun r503 =>
      gd (I64 (how284.tdiv 7)) <|
      (D_putlogref07_pick N (how284.tdiv 7) 40).bind fun r505 =>
      gd ((l497.length + 2) * 16 ≤ 140737488355328) <|
      (D_putlogref07_Made N (l476 ++ [(20, r499), (20, (r499 + 1) + r501)]) 0 20).bind fun r507 =>
      (D_putlogref07_Made N (l497 ++ [(0, r503), (0, r505)]) 20 40).bind fun r509 =>
      some (r507, r509))
    else (
      (D_putlogref07_Made N x282 0 40).bind fun r511 =>
      gd (I64 (how284.tdiv 3)) <|
      (D_putlogref07_pick N (how284.tdiv 3) (r511.length : Int)).bind fun r513 =>
      gd (I64 (r513 + 2)) <|
      gd ((r511.length : Int) ≠ 0) <|
      (D_putlogref07_Cut N r511 r513 ((r513 + 2).tmod (r511.length : Int))).bind fun (r515, r516, r517) =>
      bif decide (r517 ≠ 0) then (
        (D_putlogref07_Made N y283 0 40).bind fun r521 =>
        some (r511, r521))
      else (
        some (r515, r516))))

def T11 (N : Nat) : List (Nat × Spec) := [(33, s33 N), (15, s15 N), (34, s34 N)]
theorem T11_ok (N : Nat) : TabOK Try.prog (tabOf (T11 N)) := tab_cons (fok33 N) (tab_cons (fok15 N) (tab_cons (fok34 N) (tab_nil)))

section
attribute [local go_sem] T11 s33 s15 s34 e_ii de_ii rb_ii d_ii rowAt_zero rowAt_succ List.set_cons_succ List.isEmpty_map List.map_append List.map_eq_nil_iff ne_eq List.length_replicate takeMap dropMap List.length_set Option.isSome_some
theorem D_putlogref07_Pair_ok (N : Nat) (x282 : List (Int × Int)) (y283 : List (Int × Int)) (how284 : Int) (r : (List (Int × Int)) × (List (Int × Int))) (h : D_putlogref07_Pair N x282 y283 how284 = some r) : PCall Try.prog 11 [.sl 2 false (x282.map e_ii) [.i 0, .i 0], .sl 2 false (y283.map e_ii) [.i 0, .i 0], .i how284] (.tup [.sl 2 false (r.1.map e_ii) [.i 0, .i 0], .sl 2 false (r.2.map e_ii) [.i 0, .i 0]]) := by
  refine pcall_fn (T11_ok N) _ Try.func11 ok11 nt11 (by simp) fun _ => ?_
  have hS := T11_ok N
  have F := f0
  unfold ac11 rv11
  unfold D_putlogref07_Pair at h
  try simp only [gd_some, Option.bind_eq_some_iff] at h
  obtain ⟨r285, hr285, h⟩ := h
  replace F := fc hr285 F
  refine go hS F ?_
  refine cb F (decide (r285 = 0)) (fun hc1 => ?_) (fun hc1 => ?_)
  · replace h := cond_t hc1 h
    try simp only [gd_some, Option.bind_eq_some_iff] at h
    obtain ⟨r399, hr399, r401, hr401, h⟩ := h
    replace F := fc hr401 (fc hr399 F)
    obtain rfl := Option.some.inj h
    refine go hS F ?_
    exact fin F
  · replace h := cond_f hc1 h
    refine go hS F ?_
    refine cb F (decide (r285 = 1)) (fun hc2 => ?_) (fun hc2 => ?_)
    · replace h := cond_t hc2 h
      refine go hS F ?_
      refine awp_claimEk 1000007 8 2 [.i 0, .i 0] (by show (8 : Nat) < 118; omega) (by omega) (by simp only [go_sem, seval, F] <;> eq_refl) ?_
      try simp only [gd_some, Option.bind_eq_some_iff] at h
      obtain ⟨o477, hL3, h⟩ := h
      refine go hS F ?_
      refine awp_cut (fun z : (List (Int × Int)) × Nat => ⟨[(1, .sl 2 false (y283.map e_ii) [.i 0, .i 0]), (2, .i how284), (8, .own (1000007, 8) z.1.length), (9, .sl 0 true [] [])], [(.a (1000007, 8), .sl 2 true (z.1.map e_ii) [.i 0, .i 0])], z.2⟩) (fun z => (z.1 : (List (Int × Int))) = o477) (.x 1) ?_ ?_
      · refine awp_loop (fun y : Nat × Int × (List (Int × Int)) × Nat => ⟨[(0, .sl 2 false (x282.map e_ii) [.i 0, .i 0]), (1, .sl 2 false (y283.map e_ii) [.i 0, .i 0]), (2, .i how284), (8, .own (1000007, 8) y.2.2.1.length), (9, .sl 0 true [] []), (10, .i y.2.1)], [(.a (1000007, 8), .sl 2 true (y.2.2.1.map e_ii) [.i 0, .i 0])], y.2.2.2⟩) (fun y => D_putlogref07_Pair_L14 N x282 y.1 y.2.1 y.2.2.1 = some o477) (fun y => y.1) (N, 0, [], 8) hL3 ?_ ?_
        · exact leF F
        · rintro ⟨n, i467, l468, c466⟩ hB4
          try simp only at hB4
          obtain _ | n := n
          · exact absurd hB4 (by simp [D_putlogref07_Pair_L14])
          rw [D_putlogref07_Pair_L14] at hB4
          refine go hS F ?_
          refine cb F ((decide (i467 < (x282.length : Int))) && (decide (i467 < 6))) (fun hc5 => ?_) (fun hc5 => ?_)
          · replace hB4 := cond_t hc5 hB4
            try simp only [gd_some, Option.bind_eq_some_iff] at hB4
            obtain ⟨⟨x469, x470⟩, hn470, hB4⟩ := hB4
            have hx470 : x282.getD i467.toNat (0, 0) = (x469, x470) := ixs hn470 _
            have hb470 := (nth_some hn470).1
            replace F := fc hx470 F
            try simp only [gd_some, Option.bind_eq_some_iff] at hB4
            obtain ⟨hv6, hv7, hB4⟩ := hB4
            simp only [I64] at hv7
            refine go hS F ?_
            exact backK_n (n, i467 + 1, l468 ++ [(x469, x470)], c466 + 1 + 1 + 1) hB4 (Nat.lt_succ_self _) (leF F)
          · replace hB4 := cond_f hc5 hB4
            refine go hS F ?_
            exact cutK_h (l468, c466 + 1) (Option.some.inj hB4) (leF F)
      · rintro ⟨l476, c475⟩ hz8
        subst hz8
        try simp only at h
        refine go hS F ?_
        refine awp_claimEk 1000008 9 2 [.i 0, .i 0] (by show (9 : Nat) < 118; omega) (by omega) (by simp only [go_sem, seval, F] <;> eq_refl) ?_
        try simp only [gd_some, Option.bind_eq_some_iff] at h
        obtain ⟨o498, hL9, h⟩ := h
        refine go hS F ?_
        refine awp_cut (fun z : (List (Int × Int)) × Nat => ⟨[(2, .i how284), (8, .own (1000007, 8) l476.length), (9, .own (1000008, c475 + 1 + 1) z.1.length)], [(.a (1000008, c475 + 1 + 1), .sl 2 true (z.1.map e_ii) [.i 0, .i 0]), (.a (1000007, 8), .sl 2 true (l476.map e_ii) [.i 0, .i 0])], z.2⟩) (fun z => (z.1 : (List (Int × Int))) = o498) (.x 3) ?_ ?_
        · refine awp_loop (fun y : Nat × Int × (List (Int × Int)) × Nat => ⟨[(1, .sl 2 false (y283.map e_ii) [.i 0, .i 0]), (2, .i how284), (8, .own (1000007, 8) l476.length), (9, .own (1000008, c475 + 1 + 1) y.2.2.1.length), (11, .i y.2.1)], [(.a (1000008, c475 + 1 + 1), .sl 2 true (y.2.2.1.map e_ii) [.i 0, .i 0]), (.a (1000007, 8), .sl 2 true (l476.map e_ii) [.i 0, .i 0])], y.2.2.2⟩) (fun y => D_putlogref07_Pair_L16 N y283 y.1 y.2.1 y.2.2.1 = some o498) (fun y => y.1) (N, 0, [], c475 + 1 + 1) hL9 ?_ ?_
          · exact leF F
          · rintro ⟨n, i488, l489, c487⟩ hB10
            try simp only at hB10
            obtain _ | n := n
            · exact absurd hB10 (by simp [D_putlogref07_Pair_L16])
            rw [D_putlogref07_Pair_L16] at hB10
            refine go hS F ?_
            refine cb F ((decide (i488 < (y283.length : Int))) && (decide (i488 < 6))) (fun hc11 => ?_) (fun hc11 => ?_)
            · replace hB10 := cond_t hc11 hB10
              try simp only [gd_some, Option.bind_eq_some_iff] at hB10
              obtain ⟨⟨x490, x491⟩, hn491, hB10⟩ := hB10
              have hx491 : y283.getD i488.toNat (0, 0) = (x490, x491) := ixs hn491 _
              have hb491 := (nth_some hn491).1
              replace F := fc hx491 F
              try simp only [gd_some, Option.bind_eq_some_iff] at hB10
              obtain ⟨hv12, hv13, hB10⟩ := hB10
              simp only [I64] at hv13
              refine go hS F ?_
              exact backK_n (n, i488 + 1, l489 ++ [(x490, x491)], c487 + 1 + 1 + 1) hB10 (Nat.lt_succ_self _) (leF F)
            · replace hB10 := cond_f hc11 hB10
              refine go hS F ?_
              exact cutK_h (l489, c487 + 1) (Option.some.inj hB10) (leF F)
        · rintro ⟨l497, c496⟩ hz14
          subst hz14
          try simp only at h
          try simp only [gd_some, Option.bind_eq_some_iff] at h
          obtain ⟨hv15, r499, hr499, hv16, hv17, r501, hr501, hv18, hv19, hv20, r503, hr503, hv21, r505, hr505, hv22, r507, hr507, r509, hr509, h⟩ := h
          simp only [I64] at hv15
          simp only [I64] at hv16
          simp only [I64] at hv17
          simp only [I64] at hv18
          simp only [I64] at hv20
          simp only [I64] at hv21
          replace F := fc hr509 (fc hr507 (fc hr505 (fc hr503 (fc hr501 (fc hr499 F)))))
          obtain rfl := Option.some.inj h
          refine go hS F ?_
          exact fin F
    · replace h := cond_f hc2 h
      try simp only [gd_some, Option.bind_eq_some_iff] at h
      obtain ⟨r511, hr511, hv23, r513, hr513, hv24, hv25, ⟨r515, r516, r517⟩, hr517, h⟩ := h
      simp only [I64] at hv23
      simp only [I64] at hv24
      replace F := fc hr517 (fc hr513 (fc hr511 F))
      refine go hS F ?_
      refine cb F (decide (r517 ≠ 0)) (fun hc26 => ?_) (fun hc26 => ?_)
      · replace h := cond_t hc26 h
        try simp only [gd_some, Option.bind_eq_some_iff] at h
        obtain ⟨r521, hr521, h⟩ := h
        replace F := fc hr521 F
        obtain rfl := Option.some.inj h
        refine go hS F ?_
        exact fin F
      · replace h := cond_f hc26 h
        obtain rfl := Option.some.inj h
        refine go hS F ?_
        exact fin F
end

def s11 (N : Nat) : Spec
  | [.sl yx282 _ x282 _, .sl yy283 _ y283 _, .v (.int .i64 how284)] => some (((yx282 = 2 ∨ x282 = []) ∧ x282 = (x282.map d_ii).map e_ii) ∧ ((yy283 = 2 ∨ y283 = []) ∧ y283 = (y283.map d_ii).map e_ii) ∧ (D_putlogref07_Pair N (x282.map d_ii) (y283.map d_ii) how284).isSome = true, .tup [.sl 2 false ((((D_putlogref07_Pair N (x282.map d_ii) (y283.map d_ii) how284).getD ([], [])).1).map e_ii) [.i 0, .i 0], .sl 2 false ((((D_putlogref07_Pair N (x282.map d_ii) (y283.map d_ii) how284).getD ([], [])).2).map e_ii) [.i 0, .i 0]])
  | _ => none
theorem fok11 (N : Nat) : FOK Try.prog 11 (s11 N) := ⟨of11, by
  intro args vc r h hv
  unfold s11 at h
  split at h
  · cases h
    obtain ⟨⟨hy0, hr0⟩, ⟨hy1, hr1⟩, hs⟩ := hv
    obtain ⟨r, hr⟩ := Option.isSome_iff_exists.1 hs
    have hk := D_putlogref07_Pair_ok N _ _ _ r hr
    simp only [hr, Option.getD_some]
    refine PCall.arg ?_ hk
    simp only [wkL, wk, and_true, true_and, Bool.false_eq_true, false_implies, implies_true]
    repeat' (first | exact True.intro | assumption | apply And.intro)
  · simp at h⟩
end Go.Proofs.Ytojciffnkbfbhaa.Am
