import Derived.Test.YtdabfcbelkjmgaaDoorD2
import Derived.Test.YtdabfcbelkjmgaaDoorAc2
namespace Go.Proofs.YtdabfcbelkjmgaaDoor.Am
open Go
attribute [local irreducible] awp seqK blkK backK endK inlK restK rngK asgK itK
set_option maxRecDepth 100000
set_option maxHeartbeats 8000000
set_option linter.unusedSimpArgs false
set_option linter.unusedVariables false
/-! putlog/putlogref08.pick -/
def D_putlogref08_pick (N : Nat) (c179 : Int) (n180 : Int) : Option Int :=
  bif decide (c179 < 0) then (
    gd (I64 (c179 + 1)) <|
    gd (I64 (-(c179 + 1))) <|
    gd (n180 ≠ 0) <|
    some ((-(c179 + 1)).tmod n180))
  else (
    gd (n180 ≠ 0) <|
    some (c179.tmod n180))

def T54 (N : Nat) : List (Nat × Spec) := []
theorem T54_ok (N : Nat) : TabOK Tryd.prog (tabOf (T54 N)) := tab_nil

section
attribute [local go_sem] T54 GT_len rowAt_zero rowAt_succ List.set_cons_succ List.isEmpty_map List.map_append List.map_eq_nil_iff ne_eq List.length_replicate takeMap dropMap List.length_set Option.isSome_some
theorem D_putlogref08_pick_ok (N : Nat) (c179 : Int) (n180 : Int) (r : Int) (h : D_putlogref08_pick N c179 n180 = some r) : PCall Tryd.prog 54 [.i c179, .i n180] (.i r) := by
  refine pcall_fn (T54_ok N) _ Tryd.func54 ok54 nt54 (by simp) fun _ => ?_
  have hS := T54_ok N
  have F := f0
  unfold ac54 rv54
  unfold D_putlogref08_pick at h
  refine go hS F ?_
  refine cb F (decide (c179 < 0)) (fun hc1 => ?_) (fun hc1 => ?_)
  · replace h := cond_t hc1 h
    try simp only [gd_some, Option.bind_eq_some_iff] at h
    obtain ⟨hv2, hv3, hv4, h⟩ := h
    simp only [I64] at hv2
    simp only [I64] at hv3
    obtain rfl := Option.some.inj h
    refine go hS F ?_
    exact fin F
  · replace h := cond_f hc1 h
    try simp only [gd_some, Option.bind_eq_some_iff] at h
    obtain ⟨hv5, h⟩ := h
    obtain rfl := Option.some.inj h
    refine go hS F ?_
    exact fin F
end

def s54 (N : Nat) : Spec
  | [.v (.int .i64 c179), .v (.int .i64 n180)] => some ((D_putlogref08_pick N c179 n180).isSome = true, .i ((D_putlogref08_pick N c179 n180).getD 0))
  | _ => none
theorem fok54 (N : Nat) : FOK Tryd.prog 54 (s54 N) := ⟨of54, by
  intro args vc r h hv
  unfold s54 at h
  split at h
  · cases h
    have hs := hv
    obtain ⟨r, hr⟩ := Option.isSome_iff_exists.1 hs
    have hk := D_putlogref08_pick_ok N _ _ r hr
    simp only [hr, Option.getD_some]
    refine PCall.arg ?_ hk
    simp only [wkL, wk, and_true, true_and, Bool.false_eq_true, false_implies, implies_true]
    try trivial
  · simp at h⟩

/-! putlog/putlogref08.Of -/
def D_putlogref08_Of (N : Nat) (id181 : Int) (shape182 : List (Int × Int)) (x183 : Int) (x184 : Int) (x185 : Int) (x186 : Int) : Option (Int × Int × Int × (List (Int × Int)) × Int × Int) :=
  (D_putlogref08_pick N id181 100).bind fun r187 =>
  (D_putlogref08_pick N x183 8).bind fun r189 =>
  gd (I64 (1 + r189)) <|
  (D_putlogref08_pick N x184 8).bind fun r191 =>
  gd ((shape182.length) * 16 ≤ 140737488355328) <|
  (D_putlogref08_pick N x185 8).bind fun r193 =>
  gd (I64 (r193 + 1)) <|
  gd (I64 (8 - r193)) <|
  (D_putlogref08_pick N x186 (8 - r193)).bind fun r195 =>
  gd (I64 ((r193 + 1) + r195)) <|
  some (r187, 1 + r189, r191, shape182, r193, (r193 + 1) + r195)

def T30 (N : Nat) : List (Nat × Spec) := [(54, s54 N)]
theorem T30_ok (N : Nat) : TabOK Tryd.prog (tabOf (T30 N)) := tab_cons (fok54 N) (tab_nil)

section
attribute [local go_sem] T30 s54 e_ii de_ii rb_ii d_ii GT_len rowAt_zero rowAt_succ List.set_cons_succ List.isEmpty_map List.map_append List.map_eq_nil_iff ne_eq List.length_replicate takeMap dropMap List.length_set Option.isSome_some
theorem D_putlogref08_Of_ok (N : Nat) (id181 : Int) (shape182 : List (Int × Int)) (x183 : Int) (x184 : Int) (x185 : Int) (x186 : Int) (r : Int × Int × Int × (List (Int × Int)) × Int × Int) (h : D_putlogref08_Of N id181 shape182 x183 x184 x185 x186 = some r) : PCall Tryd.prog 30 [.i id181, .sl 2 false (shape182.map e_ii) [.i 0, .i 0], .agg [.i x183, .i x184, .i x185, .i x186]] (.agg [.i r.1, .i r.2.1, .i r.2.2.1, .sl 2 false (r.2.2.2.1.map e_ii) [.i 0, .i 0], .i r.2.2.2.2.1, .i r.2.2.2.2.2]) := by
  refine pcall_fn (T30_ok N) _ Tryd.func30 ok30 nt30 (by simp) fun _ => ?_
  have hS := T30_ok N
  have F := f0
  unfold ac30 rv30
  unfold D_putlogref08_Of at h
  try simp only [gd_some, Option.bind_eq_some_iff] at h
  obtain ⟨r187, hr187, r189, hr189, hv1, r191, hr191, hv2, r193, hr193, hv3, hv4, r195, hr195, hv5, h⟩ := h
  simp only [I64] at hv1
  simp only [I64] at hv3
  simp only [I64] at hv4
  simp only [I64] at hv5
  replace F := fc hr195 (fc hr193 (fc hr191 (fc hr189 (fc hr187 F))))
  obtain rfl := Option.some.inj h
  refine go hS F ?_
  exact fin F
end

def s30 (N : Nat) : Spec
  | [.v (.int .i64 id181), .sl yshape182 _ shape182 _, .agg [.v (.int .i64 x183), .v (.int .i64 x184), .v (.int .i64 x185), .v (.int .i64 x186)]] => some (((yshape182 = 2 ∨ shape182 = []) ∧ shape182 = (shape182.map d_ii).map e_ii) ∧ (D_putlogref08_Of N id181 (shape182.map d_ii) x183 x184 x185 x186).isSome = true, .agg [.i (((D_putlogref08_Of N id181 (shape182.map d_ii) x183 x184 x185 x186).getD (0, 0, 0, [], 0, 0)).1), .i (((D_putlogref08_Of N id181 (shape182.map d_ii) x183 x184 x185 x186).getD (0, 0, 0, [], 0, 0)).2.1), .i (((D_putlogref08_Of N id181 (shape182.map d_ii) x183 x184 x185 x186).getD (0, 0, 0, [], 0, 0)).2.2.1), .sl 2 false ((((D_putlogref08_Of N id181 (shape182.map d_ii) x183 x184 x185 x186).getD (0, 0, 0, [], 0, 0)).2.2.2.1).map e_ii) [.i 0, .i 0], .i (((D_putlogref08_Of N id181 (shape182.map d_ii) x183 x184 x185 x186).getD (0, 0, 0, [], 0, 0)).2.2.2.2.1), .i (((D_putlogref08_Of N id181 (shape182.map d_ii) x183 x184 x185 x186).getD (0, 0, 0, [], 0, 0)).2.2.2.2.2)])
  | _ => none
theorem fok30 (N : Nat) : FOK Tryd.prog 30 (s30 N) := ⟨of30, by
  intro args vc r h hv
  unfold s30 at h
  split at h
  · cases h
    obtain ⟨⟨hy0, hr0⟩, hs⟩ := hv
    obtain ⟨r, hr⟩ := Option.isSome_iff_exists.1 hs
    have hk := D_putlogref08_Of_ok N _ _ _ _ _ _ r hr
    simp only [hr, Option.getD_some]
    refine PCall.arg ?_ hk
    simp only [wkL, wk, and_true, true_and, Bool.false_eq_true, false_implies, implies_true]
    repeat' (first | exact True.intro | assumption | apply And.intro)
  · simp at h⟩

/-! putlog/putlogref08.Pair -/
def D_putlogref08_Pair (N : Nat) (x197 : List (Int × Int)) (y198 : List (Int × Int)) (how199 : Int) (a200 : Int) (a201 : Int) (a202 : Int) (a203 : Int) (b204 : Int) (b205 : Int) (b206 : Int) (b207 : Int) : Option ((Int × Int × Int × (List (Int × Int)) × Int × Int) × (Int × Int × Int × (List (Int × Int)) × Int × Int)) :=
  (D_putlogref07_Pair N x197 y198 how199).bind fun (r208, r209) =>
  gd (I64 (a200.tdiv 8)) <|
  (D_putlogref08_Of N (a200.tdiv 8) r208 a200 a201 a202 a203).bind fun (r211, r212, r213, r214, r215, r216) =>
  gd (I64 (b204.tdiv 8)) <|
  (D_putlogref08_Of N (b204.tdiv 8) r209 b204 b205 b206 b207).bind fun (r218, r219, r220, r221, r222, r223) =>
  some ((r211, r212, r213, r214, r215, r216), (r218, r219, r220, r221, r222, r223))

def T10 (N : Nat) : List (Nat × Spec) := [(29, s29 N), (30, s30 N)]
theorem T10_ok (N : Nat) : TabOK Tryd.prog (tabOf (T10 N)) := tab_cons (fok29 N) (tab_cons (fok30 N) (tab_nil))

section
attribute [local go_sem] T10 s29 s30 e_ii de_ii rb_ii d_ii GT_len rowAt_zero rowAt_succ List.set_cons_succ List.isEmpty_map List.map_append List.map_eq_nil_iff ne_eq List.length_replicate takeMap dropMap List.length_set Option.isSome_some
theorem D_putlogref08_Pair_ok (N : Nat) (x197 : List (Int × Int)) (y198 : List (Int × Int)) (how199 : Int) (a200 : Int) (a201 : Int) (a202 : Int) (a203 : Int) (b204 : Int) (b205 : Int) (b206 : Int) (b207 : Int) (r : (Int × Int × Int × (List (Int × Int)) × Int × Int) × (Int × Int × Int × (List (Int × Int)) × Int × Int)) (h : D_putlogref08_Pair N x197 y198 how199 a200 a201 a202 a203 b204 b205 b206 b207 = some r) : PCall Tryd.prog 10 [.sl 2 false (x197.map e_ii) [.i 0, .i 0], .sl 2 false (y198.map e_ii) [.i 0, .i 0], .i how199, .agg [.i a200, .i a201, .i a202, .i a203], .agg [.i b204, .i b205, .i b206, .i b207]] (.tup [.agg [.i r.1.1, .i r.1.2.1, .i r.1.2.2.1, .sl 2 false (r.1.2.2.2.1.map e_ii) [.i 0, .i 0], .i r.1.2.2.2.2.1, .i r.1.2.2.2.2.2], .agg [.i r.2.1, .i r.2.2.1, .i r.2.2.2.1, .sl 2 false (r.2.2.2.2.1.map e_ii) [.i 0, .i 0], .i r.2.2.2.2.2.1, .i r.2.2.2.2.2.2]]) := by
  refine pcall_fn (T10_ok N) _ Tryd.func10 ok10 nt10 (by simp) fun _ => ?_
  have hS := T10_ok N
  have F := f0
  unfold ac10 rv10
  unfold D_putlogref08_Pair at h
  try simp only [gd_some, Option.bind_eq_some_iff] at h
  obtain ⟨⟨r208, r209⟩, hr209, h⟩ := h
  replace F := fc hr209 F
  try simp only [gd_some, Option.bind_eq_some_iff] at h
  obtain ⟨hv1, ⟨r211, r212, r213, r214, r215, r216⟩, hr216, h⟩ := h
  simp only [I64] at hv1
  replace F := fc hr216 F
  try simp only [gd_some, Option.bind_eq_some_iff] at h
  obtain ⟨hv2, ⟨r218, r219, r220, r221, r222, r223⟩, hr223, h⟩ := h
  simp only [I64] at hv2
  replace F := fc hr223 F
  obtain rfl := Option.some.inj h
  refine go hS F ?_
  exact fin F
end

def s10 (N : Nat) : Spec
  | [.sl yx197 _ x197 _, .sl yy198 _ y198 _, .v (.int .i64 how199), .agg [.v (.int .i64 a200), .v (.int .i64 a201), .v (.int .i64 a202), .v (.int .i64 a203)], .agg [.v (.int .i64 b204), .v (.int .i64 b205), .v (.int .i64 b206), .v (.int .i64 b207)]] => some (((yx197 = 2 ∨ x197 = []) ∧ x197 = (x197.map d_ii).map e_ii) ∧ ((yy198 = 2 ∨ y198 = []) ∧ y198 = (y198.map d_ii).map e_ii) ∧ (D_putlogref08_Pair N (x197.map d_ii) (y198.map d_ii) how199 a200 a201 a202 a203 b204 b205 b206 b207).isSome = true, .tup [.agg [.i ((((D_putlogref08_Pair N (x197.map d_ii) (y198.map d_ii) how199 a200 a201 a202 a203 b204 b205 b206 b207).getD ((0, 0, 0, [], 0, 0), (0, 0, 0, [], 0, 0))).1).1), .i ((((D_putlogref08_Pair N (x197.map d_ii) (y198.map d_ii) how199 a200 a201 a202 a203 b204 b205 b206 b207).getD ((0, 0, 0, [], 0, 0), (0, 0, 0, [], 0, 0))).1).2.1), .i ((((D_putlogref08_Pair N (x197.map d_ii) (y198.map d_ii) how199 a200 a201 a202 a203 b204 b205 b206 b207).getD ((0, 0, 0, [], 0, 0), (0, 0, 0, [], 0, 0))).1).2.2.1), .sl 2 false (((((D_putlogref08_Pair N (x197.map d_ii) (y198.map d_ii) how199 a200 a201 a202 a203 b204 b205 b206 b207).getD ((0, 0, 0, [], 0, 0), (0, 0, 0, [], 0, 0))).1).2.2.2.1).map e_ii) [.i 0, .i 0], .i ((((D_putlogref08_Pair N (x197.map d_ii) (y198.map d_ii) how199 a200 a201 a202 a203 b204 b205 b206 b207).getD ((0, 0, 0, [], 0, 0), (0, 0, 0, [], 0, 0))).1).2.2.2.2.1), .i ((((D_putlogref08_Pair N (x197.map d_ii) (y198.map d_ii) how199 a200 a201 a202 a203 b204 b205 b206 b207).getD ((0, 0, 0, [], 0, 0), (0, 0, 0, [], 0, 0))).1).2.2.2.2.2)], .agg [.i ((((D_putlogref08_Pair N (x197.map d_ii) (y198.map d_ii) how199 a200 a201 a202 a203 b204 b205 b206 b207).getD ((0, 0, 0, [], 0, 0), (0, 0, 0, [], 0, 0))).2).1), .i ((((D_putlogref08_Pair N (x197.map d_ii) (y198.map d_ii) how199 a200 a201 a202 a203 b204 b205 b206 b207).getD ((0, 0, 0, [], 0, 0), (0, 0, 0, [], 0, 0))).2).2.1), .i ((((D_putlogref08_Pair N (x197.map d_ii) (y198.map d_ii) how199 a200 a201 a202 a203 b204 b205 b206 b207).getD ((0, 0, 0, [], 0, 0), (0, 0, 0, [], 0, 0))).2).2.2.1), .sl 2 false (((((D_putlogref08_Pair N (x197.map d_ii) (y198.map d_ii) how199 a200 a201 a202 a203 b204 b205 b206 b207).getD ((0, 0, 0, [], 0, 0), (0, 0, 0, [], 0, 0))).2).2.2.2.1).map e_ii) [.i 0, .i 0], .i ((((D_putlogref08_Pair N (x197.map d_ii) (y198.map d_ii) how199 a200 a201 a202 a203 b204 b205 b206 b207).getD ((0, 0, 0, [], 0, 0), (0, 0, 0, [], 0, 0))).2).2.2.2.2.1), .i ((((D_putlogref08_Pair N (x197.map d_ii) (y198.map d_ii) how199 a200 a201 a202 a203 b204 b205 b206 b207).getD ((0, 0, 0, [], 0, 0), (0, 0, 0, [], 0, 0))).2).2.2.2.2.2)]])
  | _ => none
theorem fok10 (N : Nat) : FOK Tryd.prog 10 (s10 N) := ⟨of10, by
  intro args vc r h hv
  unfold s10 at h
  split at h
  · cases h
    obtain ⟨⟨hy0, hr0⟩, ⟨hy1, hr1⟩, hs⟩ := hv
    obtain ⟨r, hr⟩ := Option.isSome_iff_exists.1 hs
    have hk := D_putlogref08_Pair_ok N _ _ _ _ _ _ _ _ _ _ _ r hr
    simp only [hr, Option.getD_some]
    refine PCall.arg ?_ hk
    simp only [wkL, wk, and_true, true_and, Bool.false_eq_true, false_implies, implies_true]
    repeat' (first | exact True.intro | assumption | apply And.intro)
  · simp at h⟩

/-! putlog/putlogref08.Same -/
def D_putlogref08_Same_L1 (N : Nat) (a228 : List (Int × Int)) (b234 : List (Int × Int)) : Nat → Int → Option (Sum Unit Bool)
  | 0, _ => none
  | n + 1, i245 =>
    bif decide (i245 < (a228.length : Int)) then (
      (nth a228 i245).bind fun (x246, x247) =>
      (nth b234 i245).bind fun (x249, x250) =>
      bif !(decide (x246 = x249) && decide (x247 = x250)) then (
        some (.inr false))
      else (
        gd (I64 (i245 + 1)) <|
        D_putlogref08_Same_L1 N a228 b234 n (i245 + 1)))
    else (
      some (.inl ()))

def D_putlogref08_Same (N : Nat) (a225 : Int) (a226 : Int) (a227 : Int) (a228 : List (Int × Int)) (a229 : Int) (a230 : Int) (b231 : Int) (b232 : Int) (b233 : Int) (b234 : List (Int × Int)) (b235 : Int) (b236 : Int) : Option Bool :=
  bif (((((decide (a225 ≠ b231)) || (decide (a226 ≠ b232))) || (decide (a227 ≠ b233))) || (decide (a229 ≠ b235))) || (decide (a230 ≠ b236))) || (decide ((a228.length : Int) ≠ (b234.length : Int))) then (
    some false)
  else (
    (D_putlogref08_Same_L1 N a228 b234 N 0).bind fun o256 => match o256 with
      | .inl () => (
        some true)
      | .inr r255 => (
        some r255))

def T17 (N : Nat) : List (Nat × Spec) := []
theorem T17_ok (N : Nat) : TabOK Tryd.prog (tabOf (T17 N)) := tab_nil

section
attribute [local go_sem] T17 e_ii de_ii rb_ii d_ii GT_len rowAt_zero rowAt_succ List.set_cons_succ List.isEmpty_map List.map_append List.map_eq_nil_iff ne_eq List.length_replicate takeMap dropMap List.length_set Option.isSome_some
theorem D_putlogref08_Same_ok (N : Nat) (a225 : Int) (a226 : Int) (a227 : Int) (a228 : List (Int × Int)) (a229 : Int) (a230 : Int) (b231 : Int) (b232 : Int) (b233 : Int) (b234 : List (Int × Int)) (b235 : Int) (b236 : Int) (r : Bool) (h : D_putlogref08_Same N a225 a226 a227 a228 a229 a230 b231 b232 b233 b234 b235 b236 = some r) : PCall Tryd.prog 17 [.agg [.i a225, .i a226, .i a227, .sl 2 false (a228.map e_ii) [.i 0, .i 0], .i a229, .i a230], .agg [.i b231, .i b232, .i b233, .sl 2 false (b234.map e_ii) [.i 0, .i 0], .i b235, .i b236]] (.b r) := by
  refine pcall_fn (T17_ok N) _ Tryd.func17 ok17 nt17 (by simp) fun _ => ?_
  have hS := T17_ok N
  have F := f0
  unfold ac17 rv17
  unfold D_putlogref08_Same at h
  refine go hS F ?_
  refine cb F ((((((decide (a225 ≠ b231)) || (decide (a226 ≠ b232))) || (decide (a227 ≠ b233))) || (decide (a229 ≠ b235))) || (decide (a230 ≠ b236))) || (decide ((a228.length : Int) ≠ (b234.length : Int)))) (fun hc1 => ?_) (fun hc1 => ?_)
  · replace h := cond_t hc1 h
    obtain rfl := Option.some.inj h
    refine go hS F ?_
    exact fin F
  · replace h := cond_f hc1 h
    try simp only [gd_some, Option.bind_eq_some_iff] at h
    obtain ⟨o256, hL2, h⟩ := h
    refine go hS F ?_
    refine awp_cut (fun z : Nat => ⟨[], [], z⟩) (fun z => (.inl () : Sum Unit Bool) = o256) (.x 0) ?_ ?_
    · refine awp_loop (fun y : Nat × Int × Nat => ⟨[(2, .box (0, 1) 0), (3, .box (1, 1) 0), (5, .i y.2.1)], [(.c (1, 1) 0, .i b231), (.c (1, 1) 1, .i b232), (.c (1, 1) 2, .i b233), (.c (1, 1) 3, .sl 2 false (b234.map e_ii) [.i 0, .i 0]), (.c (1, 1) 4, .i b235), (.c (1, 1) 5, .i b236), (.c (0, 1) 0, .i a225), (.c (0, 1) 1, .i a226), (.c (0, 1) 2, .i a227), (.c (0, 1) 3, .sl 2 false (a228.map e_ii) [.i 0, .i 0]), (.c (0, 1) 4, .i a229), (.c (0, 1) 5, .i a230)], y.2.2⟩) (fun y => D_putlogref08_Same_L1 N a228 b234 y.1 y.2.1 = some o256) (fun y => y.1) (N, 0, 3) hL2 ?_ ?_
      · exact leF F
      · rintro ⟨n, i245, c244⟩ hB3
        try simp only at hB3
        obtain _ | n := n
        · exact absurd hB3 (by simp [D_putlogref08_Same_L1])
        rw [D_putlogref08_Same_L1] at hB3
        refine go hS F ?_
        refine cb F (decide (i245 < (a228.length : Int))) (fun hc4 => ?_) (fun hc4 => ?_)
        · replace hB3 := cond_t hc4 hB3
          try simp only [gd_some, Option.bind_eq_some_iff] at hB3
          obtain ⟨⟨x246, x247⟩, hn247, hB3⟩ := hB3
          have hx247 : a228.getD i245.toNat (0, 0) = (x246, x247) := ixs hn247 _
          have hb247 := (nth_some hn247).1
          replace F := fc hx247 F
          try simp only [gd_some, Option.bind_eq_some_iff] at hB3
          obtain ⟨⟨x249, x250⟩, hn250, hB3⟩ := hB3
          have hx250 : b234.getD i245.toNat (0, 0) = (x249, x250) := ixs hn250 _
          have hb250 := (nth_some hn250).1
          replace F := fc hx250 F
          refine go hS F ?_
          refine cb F (!(decide (x246 = x249) && decide (x247 = x250))) (fun hc5 => ?_) (fun hc5 => ?_)
          · replace hB3 := cond_t hc5 hB3
            obtain rfl := Option.some.inj hB3
            try simp only at h
            obtain rfl := Option.some.inj h
            refine go hS F ?_
            exact fin F
          · replace hB3 := cond_f hc5 hB3
            try simp only [gd_some, Option.bind_eq_some_iff] at hB3
            obtain ⟨hv6, hB3⟩ := hB3
            simp only [I64] at hv6
            refine go hS F ?_
            exact backK_n (n, i245 + 1, c244 + 1 + 1 + 1) hB3 (Nat.lt_succ_self _) (leF F)
        · replace hB3 := cond_f hc4 hB3
          refine go hS F ?_
          exact cutK_h (c244 + 1) (Option.some.inj hB3) (leF F)
    · rintro c254 hz7
      subst hz7
      try simp only at h
      obtain rfl := Option.some.inj h
      refine go hS F ?_
      exact fin F
end

def s17 (N : Nat) : Spec
  | [.agg [.v (.int .i64 a225), .v (.int .i64 a226), .v (.int .i64 a227), .sl ya228 _ a228 _, .v (.int .i64 a229), .v (.int .i64 a230)], .agg [.v (.int .i64 b231), .v (.int .i64 b232), .v (.int .i64 b233), .sl yb234 _ b234 _, .v (.int .i64 b235), .v (.int .i64 b236)]] => some (((ya228 = 2 ∨ a228 = []) ∧ a228 = (a228.map d_ii).map e_ii) ∧ ((yb234 = 2 ∨ b234 = []) ∧ b234 = (b234.map d_ii).map e_ii) ∧ (D_putlogref08_Same N a225 a226 a227 (a228.map d_ii) a229 a230 b231 b232 b233 (b234.map d_ii) b235 b236).isSome = true, .b ((D_putlogref08_Same N a225 a226 a227 (a228.map d_ii) a229 a230 b231 b232 b233 (b234.map d_ii) b235 b236).getD false))
  | _ => none
theorem fok17 (N : Nat) : FOK Tryd.prog 17 (s17 N) := ⟨of17, by
  intro args vc r h hv
  unfold s17 at h
  split at h
  · cases h
    obtain ⟨⟨hy0, hr0⟩, ⟨hy1, hr1⟩, hs⟩ := hv
    obtain ⟨r, hr⟩ := Option.isSome_iff_exists.1 hs
    have hk := D_putlogref08_Same_ok N _ _ _ _ _ _ _ _ _ _ _ _ r hr
    simp only [hr, Option.getD_some]
    refine PCall.arg ?_ hk
    simp only [wkL, wk, and_true, true_and, Bool.false_eq_true, false_implies, implies_true]
    repeat' (first | exact True.intro | assumption | apply And.intro)
  · simp at h⟩

/-! putlog/putloglaw08.pick -/
def D_putloglaw08_pick (N : Nat) (c257 : Int) (n258 : Int) : Option Int :=
  bif decide (c257 < 0) then (
    gd (I64 (c257 + 1)) <|
    gd (I64 (-(c257 + 1))) <|
    gd (n258 ≠ 0) <|
    some ((-(c257 + 1)).tmod n258))
  else (
    gd (n258 ≠ 0) <|
    some (c257.tmod n258))

def T13 (N : Nat) : List (Nat × Spec) := []
theorem T13_ok (N : Nat) : TabOK Tryd.prog (tabOf (T13 N)) := tab_nil

section
attribute [local go_sem] T13 GT_len rowAt_zero rowAt_succ List.set_cons_succ List.isEmpty_map List.map_append List.map_eq_nil_iff ne_eq List.length_replicate takeMap dropMap List.length_set Option.isSome_some
theorem D_putloglaw08_pick_ok (N : Nat) (c257 : Int) (n258 : Int) (r : Int) (h : D_putloglaw08_pick N c257 n258 = some r) : PCall Tryd.prog 13 [.i c257, .i n258] (.i r) := by
  refine pcall_fn (T13_ok N) _ Tryd.func13 ok13 nt13 (by simp) fun _ => ?_
  have hS := T13_ok N
  have F := f0
  unfold ac13 rv13
  unfold D_putloglaw08_pick at h
  refine go hS F ?_
  refine cb F (decide (c257 < 0)) (fun hc1 => ?_) (fun hc1 => ?_)
  · replace h := cond_t hc1 h
    try simp only [gd_some, Option.bind_eq_some_iff] at h
    obtain ⟨hv2, hv3, hv4, h⟩ := h
    simp only [I64] at hv2
    simp only [I64] at hv3
    obtain rfl := Option.some.inj h
    refine go hS F ?_
    exact fin F
  · replace h := cond_f hc1 h
    try simp only [gd_some, Option.bind_eq_some_iff] at h
    obtain ⟨hv5, h⟩ := h
    obtain rfl := Option.some.inj h
    refine go hS F ?_
    exact fin F
end

def s13 (N : Nat) : Spec
  | [.v (.int .i64 c257), .v (.int .i64 n258)] => some ((D_putloglaw08_pick N c257 n258).isSome = true, .i ((D_putloglaw08_pick N c257 n258).getD 0))
  | _ => none
theorem fok13 (N : Nat) : FOK Tryd.prog 13 (s13 N) := ⟨of13, by
  intro args vc r h hv
  unfold s13 at h
  split at h
  · cases h
    have hs := hv
    obtain ⟨r, hr⟩ := Option.isSome_iff_exists.1 hs
    have hk := D_putloglaw08_pick_ok N _ _ r hr
    simp only [hr, Option.getD_some]
    refine PCall.arg ?_ hk
    simp only [wkL, wk, and_true, true_and, Bool.false_eq_true, false_implies, implies_true]
    try trivial
  · simp at h⟩

/-! putlog/putloglaw08.examples -/
def D_putloglaw08_examples (N : Nat) : Option ((Int × Int × Int × (List (Int × Int)) × Int × Int) × (Int × Int × Int × (List (Int × Int)) × Int × Int)) :=
  some ((3, 2, 0, [(0, 0), (4, 0), (4, 4), (0, 4)], 0, 2), (5, 3, 3, [(4, 2), (8, 2), (8, 6), (4, 6)], 1, 4))

def T26 (N : Nat) : List (Nat × Spec) := []
theorem T26_ok (N : Nat) : TabOK Tryd.prog (tabOf (T26 N)) := tab_nil

section
attribute [local go_sem] T26 e_ii de_ii rb_ii d_ii GT_len rowAt_zero rowAt_succ List.set_cons_succ List.isEmpty_map List.map_append List.map_eq_nil_iff ne_eq List.length_replicate takeMap dropMap List.length_set Option.isSome_some
theorem D_putloglaw08_examples_ok (N : Nat) (r : (Int × Int × Int × (List (Int × Int)) × Int × Int) × (Int × Int × Int × (List (Int × Int)) × Int × Int)) (h : D_putloglaw08_examples N = some r) : PCall Tryd.prog 26 [] (.tup [.agg [.i r.1.1, .i r.1.2.1, .i r.1.2.2.1, .sl 2 false (r.1.2.2.2.1.map e_ii) [.i 0, .i 0], .i r.1.2.2.2.2.1, .i r.1.2.2.2.2.2], .agg [.i r.2.1, .i r.2.2.1, .i r.2.2.2.1, .sl 2 false (r.2.2.2.2.1.map e_ii) [.i 0, .i 0], .i r.2.2.2.2.2.1, .i r.2.2.2.2.2.2]]) := by
  refine pcall_fn (T26_ok N) _ Tryd.func26 ok26 nt26 (by simp) fun _ => ?_
  have hS := T26_ok N
  have F := f0
  unfold ac26 rv26
  unfold D_putloglaw08_examples at h
  obtain rfl := Option.some.inj h
  refine go hS F ?_
  exact fin F
end

def s26 (N : Nat) : Spec
  | [] => some ((D_putloglaw08_examples N).isSome = true, .tup [.agg [.i ((((D_putloglaw08_examples N).getD ((0, 0, 0, [], 0, 0), (0, 0, 0, [], 0, 0))).1).1), .i ((((D_putloglaw08_examples N).getD ((0, 0, 0, [], 0, 0), (0, 0, 0, [], 0, 0))).1).2.1), .i ((((D_putloglaw08_examples N).getD ((0, 0, 0, [], 0, 0), (0, 0, 0, [], 0, 0))).1).2.2.1), .sl 2 false (((((D_putloglaw08_examples N).getD ((0, 0, 0, [], 0, 0), (0, 0, 0, [], 0, 0))).1).2.2.2.1).map e_ii) [.i 0, .i 0], .i ((((D_putloglaw08_examples N).getD ((0, 0, 0, [], 0, 0), (0, 0, 0, [], 0, 0))).1).2.2.2.2.1), .i ((((D_putloglaw08_examples N).getD ((0, 0, 0, [], 0, 0), (0, 0, 0, [], 0, 0))).1).2.2.2.2.2)], .agg [.i ((((D_putloglaw08_examples N).getD ((0, 0, 0, [], 0, 0), (0, 0, 0, [], 0, 0))).2).1), .i ((((D_putloglaw08_examples N).getD ((0, 0, 0, [], 0, 0), (0, 0, 0, [], 0, 0))).2).2.1), .i ((((D_putloglaw08_examples N).getD ((0, 0, 0, [], 0, 0), (0, 0, 0, [], 0, 0))).2).2.2.1), .sl 2 false (((((D_putloglaw08_examples N).getD ((0, 0, 0, [], 0, 0), (0, 0, 0, [], 0, 0))).2).2.2.2.1).map e_ii) [.i 0, .i 0], .i ((((D_putloglaw08_examples N).getD ((0, 0, 0, [], 0, 0), (0, 0, 0, [], 0, 0))).2).2.2.2.2.1), .i ((((D_putloglaw08_examples N).getD ((0, 0, 0, [], 0, 0), (0, 0, 0, [], 0, 0))).2).2.2.2.2.2)]])
  | _ => none
theorem fok26 (N : Nat) : FOK Tryd.prog 26 (s26 N) := ⟨of26, by
  intro args vc r h hv
  unfold s26 at h
  split at h
  · cases h
    have hs := hv
    obtain ⟨r, hr⟩ := Option.isSome_iff_exists.1 hs
    have hk := D_putloglaw08_examples_ok N r hr
    simp only [hr, Option.getD_some]
    refine PCall.arg ?_ hk
    simp only [wkL, wk, and_true, true_and, Bool.false_eq_true, false_implies, implies_true]
    try trivial
  · simp at h⟩
end Go.Proofs.YtdabfcbelkjmgaaDoor.Am
