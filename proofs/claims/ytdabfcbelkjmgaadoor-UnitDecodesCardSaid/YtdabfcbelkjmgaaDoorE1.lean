import Derived.Test.YtdabfcbelkjmgaaDoorD8
import Derived.Test.YtdabfcbelkjmgaaDoorAc2
namespace Go.Proofs.YtdabfcbelkjmgaaDoor.Am
open Go
attribute [local irreducible] awp seqK blkK backK endK inlK restK rngK asgK itK
set_option maxRecDepth 100000
set_option maxHeartbeats 8000000
set_option linter.unusedSimpArgs false
set_option linter.unusedVariables false
/-! putlog/unit.isIn -/
def D_unit_isIn (N : Nat) (n1 : Int) (low2 : Int) (high3 : Int) : Option Bool :=
  some ((decide (low2 ≤ n1)) && (decide (n1 ≤ high3)))

def T46 (N : Nat) : List (Nat × Spec) := []
theorem T46_ok (N : Nat) : TabOK Tryd.prog (tabOf (T46 N)) := tab_nil

section
attribute [local go_sem] T46 GT_len rowAt_zero rowAt_succ List.set_cons_succ List.isEmpty_map List.map_append List.map_eq_nil_iff ne_eq List.length_replicate takeMap dropMap List.length_set Option.isSome_some
theorem D_unit_isIn_ok (N : Nat) (n1 : Int) (low2 : Int) (high3 : Int) (r : Bool) (h : D_unit_isIn N n1 low2 high3 = some r) : PCall Tryd.prog 46 [.i n1, .i low2, .i high3] (.b r) := by
  refine pcall_fn (T46_ok N) _ Tryd.func46 ok46 nt46 (by simp) fun _ => ?_
  have hS := T46_ok N
  have F := f0
  unfold ac46 rv46
  unfold D_unit_isIn at h
  obtain rfl := Option.some.inj h
  refine go hS F ?_
  exact fin F
end

def s46 (N : Nat) : Spec
  | [.v (.int .i64 n1), .v (.int .i64 low2), .v (.int .i64 high3)] => some ((D_unit_isIn N n1 low2 high3).isSome = true, .b ((D_unit_isIn N n1 low2 high3).getD false))
  | _ => none
theorem fok46 (N : Nat) : FOK Tryd.prog 46 (s46 N) := ⟨of46, by
  intro args vc r h hv
  unfold s46 at h
  split at h
  · cases h
    have hs := hv
    obtain ⟨r, hr⟩ := Option.isSome_iff_exists.1 hs
    have hk := D_unit_isIn_ok N _ _ _ r hr
    simp only [hr, Option.getD_some]
    refine PCall.arg ?_ hk
    simp only [wkL, wk, and_true, true_and, Bool.false_eq_true, false_implies, implies_true]
    try trivial
  · simp at h⟩

/-! putlog/unit.Valid -/
def D_unit_Valid (N : Nat) (u4 : Int) (u5 : Int) (u6 : Int) (u7 : List (Int × Int)) (u8 : Int) (u9 : Int) : Option Bool :=
  (D_unit_isIn N u4 0 99).bind fun r10 =>
  gd (r10 = true → ((D_unit_isIn N u5 1 8).isSome = true)) <|
  gd ((r10 && ((D_unit_isIn N u5 1 8).getD false)) = true → ((D_unit_isIn N u6 0 7).isSome = true)) <|
  gd ((((((r10 && ((D_unit_isIn N u5 1 8).getD false)) && ((D_unit_isIn N u6 0 7).getD false)) && (decide (0 ≤ u8))) && (decide (u8 < u9))) && (decide (u9 ≤ 8))) = true → ((D_plane_Valid N u7).isSome = true)) <|
  some ((((((r10 && ((D_unit_isIn N u5 1 8).getD false)) && ((D_unit_isIn N u6 0 7).getD false)) && (decide (0 ≤ u8))) && (decide (u8 < u9))) && (decide (u9 ≤ 8))) && ((D_plane_Valid N u7).getD false))

def T23 (N : Nat) : List (Nat × Spec) := [(46, s46 N), (34, s34 N)]
theorem T23_ok (N : Nat) : TabOK Tryd.prog (tabOf (T23 N)) := tab_cons (fok46 N) (tab_cons (fok34 N) (tab_nil))

section
attribute [local go_sem] T23 s46 s34 e_ii de_ii rb_ii d_ii GT_len rowAt_zero rowAt_succ List.set_cons_succ List.isEmpty_map List.map_append List.map_eq_nil_iff ne_eq List.length_replicate takeMap dropMap List.length_set Option.isSome_some
theorem D_unit_Valid_ok (N : Nat) (u4 : Int) (u5 : Int) (u6 : Int) (u7 : List (Int × Int)) (u8 : Int) (u9 : Int) (r : Bool) (h : D_unit_Valid N u4 u5 u6 u7 u8 u9 = some r) : PCall Tryd.prog 23 [.agg [.i u4, .i u5, .i u6, .sl 2 false (u7.map e_ii) [.i 0, .i 0], .i u8, .i u9]] (.b r) := by
  refine pcall_fn (T23_ok N) _ Tryd.func23 ok23 nt23 (by simp) fun _ => ?_
  have hS := T23_ok N
  have F := f0
  unfold ac23 rv23
  unfold D_unit_Valid at h
  try simp only [gd_some, Option.bind_eq_some_iff] at h
  obtain ⟨r10, hr10, hv1, hv2, hv3, h⟩ := h
  replace F := fc hr10 F
  obtain rfl := Option.some.inj h
  refine go hS F ?_
  exact fin F
end

def s23 (N : Nat) : Spec
  | [.agg [.v (.int .i64 u4), .v (.int .i64 u5), .v (.int .i64 u6), .sl yu7 _ u7 _, .v (.int .i64 u8), .v (.int .i64 u9)]] => some (((yu7 = 2 ∨ u7 = []) ∧ u7 = (u7.map d_ii).map e_ii) ∧ (D_unit_Valid N u4 u5 u6 (u7.map d_ii) u8 u9).isSome = true, .b ((D_unit_Valid N u4 u5 u6 (u7.map d_ii) u8 u9).getD false))
  | _ => none
theorem fok23 (N : Nat) : FOK Tryd.prog 23 (s23 N) := ⟨of23, by
  intro args vc r h hv
  unfold s23 at h
  split at h
  · cases h
    obtain ⟨⟨hy0, hr0⟩, hs⟩ := hv
    obtain ⟨r, hr⟩ := Option.isSome_iff_exists.1 hs
    have hk := D_unit_Valid_ok N _ _ _ _ _ _ r hr
    simp only [hr, Option.getD_some]
    refine PCall.arg ?_ hk
    simp only [wkL, wk, and_true, true_and, Bool.false_eq_true, false_implies, implies_true]
    repeat' (first | exact True.intro | assumption | apply And.intro)
  · simp at h⟩

/-! putlog/unit.Stuff -/
def D_unit_Stuff (N : Nat) (material12 : Int) : Option ((Int × Int × Int × Int × Int) × Int) :=
  (D_unit_isIn N material12 0 7).bind fun r13 =>
  bif !r13 then (
    some ((0, 0, 0, 0, 0), 80))
  else (
    gd (0 ≤ material12 ∧ material12 < 8) <|
    some (((GT 0).getD (material12.toNat * 5) 0, (GT 0).getD (material12.toNat * 5 + 1) 0, (GT 0).getD (material12.toNat * 5 + 1 + 1) 0, (GT 0).getD (material12.toNat * 5 + 1 + 1 + 1) 0, (GT 0).getD (material12.toNat * 5 + 1 + 1 + 1 + 1) 0), 0))

def T27 (N : Nat) : List (Nat × Spec) := [(46, s46 N)]
theorem T27_ok (N : Nat) : TabOK Tryd.prog (tabOf (T27 N)) := tab_cons (fok46 N) (tab_nil)

section
attribute [local go_sem] T27 s46 GT_len rowAt_zero rowAt_succ List.set_cons_succ List.isEmpty_map List.map_append List.map_eq_nil_iff ne_eq List.length_replicate takeMap dropMap List.length_set Option.isSome_some
theorem D_unit_Stuff_ok (N : Nat) (material12 : Int) (r : (Int × Int × Int × Int × Int) × Int) (h : D_unit_Stuff N material12 = some r) : PCall Tryd.prog 27 [.i material12] (.tup [.agg [.i r.1.1, .i r.1.2.1, .i r.1.2.2.1, .i r.1.2.2.2.1, .i r.1.2.2.2.2], .i r.2]) := by
  refine pcall_fn (T27_ok N) _ Tryd.func27 ok27 nt27 (by simp) fun _ => ?_
  have hS := T27_ok N
  have F := f0
  unfold ac27 rv27
  unfold D_unit_Stuff at h
  try simp only [gd_some, Option.bind_eq_some_iff] at h
  obtain ⟨r13, hr13, h⟩ := h
  replace F := fc hr13 F
  refine go hS F ?_
  refine cb F (!r13) (fun hc1 => ?_) (fun hc1 => ?_)
  · replace h := cond_t hc1 h
    obtain rfl := Option.some.inj h
    refine go hS F ?_
    exact fin F
  · replace h := cond_f hc1 h
    try simp only [gd_some, Option.bind_eq_some_iff] at h
    obtain ⟨hv2, h⟩ := h
    obtain rfl := Option.some.inj h
    refine go hS F ?_
    exact fin F
end

def s27 (N : Nat) : Spec
  | [.v (.int .i64 material12)] => some ((D_unit_Stuff N material12).isSome = true, .tup [.agg [.i ((((D_unit_Stuff N material12).getD ((0, 0, 0, 0, 0), 0)).1).1), .i ((((D_unit_Stuff N material12).getD ((0, 0, 0, 0, 0), 0)).1).2.1), .i ((((D_unit_Stuff N material12).getD ((0, 0, 0, 0, 0), 0)).1).2.2.1), .i ((((D_unit_Stuff N material12).getD ((0, 0, 0, 0, 0), 0)).1).2.2.2.1), .i ((((D_unit_Stuff N material12).getD ((0, 0, 0, 0, 0), 0)).1).2.2.2.2)], .i (((D_unit_Stuff N material12).getD ((0, 0, 0, 0, 0), 0)).2)])
  | _ => none
theorem fok27 (N : Nat) : FOK Tryd.prog 27 (s27 N) := ⟨of27, by
  intro args vc r h hv
  unfold s27 at h
  split at h
  · cases h
    have hs := hv
    obtain ⟨r, hr⟩ := Option.isSome_iff_exists.1 hs
    have hk := D_unit_Stuff_ok N _ r hr
    simp only [hr, Option.getD_some]
    refine PCall.arg ?_ hk
    simp only [wkL, wk, and_true, true_and, Bool.false_eq_true, false_implies, implies_true]
    try trivial
  · simp at h⟩

/-! putlog/unit.depth -/
def D_unit_depth (N : Nat) (u15 : Int) (u16 : Int) (u17 : Int) (u18 : List (Int × Int)) (u19 : Int) (u20 : Int) : Option Int :=
  (D_unit_Valid N u15 u16 u17 u18 u19 u20).bind fun r21 =>
  bif !r21 then (
    some 0)
  else (
    gd (I64 (u20 - u19)) <|
    some (u20 - u19))

def T33 (N : Nat) : List (Nat × Spec) := [(23, s23 N)]
theorem T33_ok (N : Nat) : TabOK Tryd.prog (tabOf (T33 N)) := tab_cons (fok23 N) (tab_nil)

section
attribute [local go_sem] T33 s23 e_ii de_ii rb_ii d_ii GT_len rowAt_zero rowAt_succ List.set_cons_succ List.isEmpty_map List.map_append List.map_eq_nil_iff ne_eq List.length_replicate takeMap dropMap List.length_set Option.isSome_some
theorem D_unit_depth_ok (N : Nat) (u15 : Int) (u16 : Int) (u17 : Int) (u18 : List (Int × Int)) (u19 : Int) (u20 : Int) (r : Int) (h : D_unit_depth N u15 u16 u17 u18 u19 u20 = some r) : PCall Tryd.prog 33 [.agg [.i u15, .i u16, .i u17, .sl 2 false (u18.map e_ii) [.i 0, .i 0], .i u19, .i u20]] (.i r) := by
  refine pcall_fn (T33_ok N) _ Tryd.func33 ok33 nt33 (by simp) fun _ => ?_
  have hS := T33_ok N
  have F := f0
  unfold ac33 rv33
  unfold D_unit_depth at h
  try simp only [gd_some, Option.bind_eq_some_iff] at h
  obtain ⟨r21, hr21, h⟩ := h
  replace F := fc hr21 F
  refine go hS F ?_
  refine cb F (!r21) (fun hc1 => ?_) (fun hc1 => ?_)
  · replace h := cond_t hc1 h
    obtain rfl := Option.some.inj h
    refine go hS F ?_
    exact fin F
  · replace h := cond_f hc1 h
    try simp only [gd_some, Option.bind_eq_some_iff] at h
    obtain ⟨hv2, h⟩ := h
    simp only [I64] at hv2
    obtain rfl := Option.some.inj h
    refine go hS F ?_
    exact fin F
end

def s33 (N : Nat) : Spec
  | [.agg [.v (.int .i64 u15), .v (.int .i64 u16), .v (.int .i64 u17), .sl yu18 _ u18 _, .v (.int .i64 u19), .v (.int .i64 u20)]] => some (((yu18 = 2 ∨ u18 = []) ∧ u18 = (u18.map d_ii).map e_ii) ∧ (D_unit_depth N u15 u16 u17 (u18.map d_ii) u19 u20).isSome = true, .i ((D_unit_depth N u15 u16 u17 (u18.map d_ii) u19 u20).getD 0))
  | _ => none
theorem fok33 (N : Nat) : FOK Tryd.prog 33 (s33 N) := ⟨of33, by
  intro args vc r h hv
  unfold s33 at h
  split at h
  · cases h
    obtain ⟨⟨hy0, hr0⟩, hs⟩ := hv
    obtain ⟨r, hr⟩ := Option.isSome_iff_exists.1 hs
    have hk := D_unit_depth_ok N _ _ _ _ _ _ r hr
    simp only [hr, Option.getD_some]
    refine PCall.arg ?_ hk
    simp only [wkL, wk, and_true, true_and, Bool.false_eq_true, false_implies, implies_true]
    repeat' (first | exact True.intro | assumption | apply And.intro)
  · simp at h⟩

/-! putlog/unit.Volume2 -/
def D_unit_Volume2 (N : Nat) (u23 : Int) (u24 : Int) (u25 : Int) (u26 : List (Int × Int)) (u27 : Int) (u28 : Int) : Option Int :=
  (D_plane_Area2 N u26).bind fun r29 =>
  (D_unit_depth N u23 u24 u25 u26 u27 u28).bind fun r31 =>
  gd (I64 (r29 * r31)) <|
  some (r29 * r31)

def T18 (N : Nat) : List (Nat × Spec) := [(40, s40 N), (33, s33 N)]
theorem T18_ok (N : Nat) : TabOK Tryd.prog (tabOf (T18 N)) := tab_cons (fok40 N) (tab_cons (fok33 N) (tab_nil))

section
attribute [local go_sem] T18 s40 s33 e_ii de_ii rb_ii d_ii GT_len rowAt_zero rowAt_succ List.set_cons_succ List.isEmpty_map List.map_append List.map_eq_nil_iff ne_eq List.length_replicate takeMap dropMap List.length_set Option.isSome_some
theorem D_unit_Volume2_ok (N : Nat) (u23 : Int) (u24 : Int) (u25 : Int) (u26 : List (Int × Int)) (u27 : Int) (u28 : Int) (r : Int) (h : D_unit_Volume2 N u23 u24 u25 u26 u27 u28 = some r) : PCall Tryd.prog 18 [.agg [.i u23, .i u24, .i u25, .sl 2 false (u26.map e_ii) [.i 0, .i 0], .i u27, .i u28]] (.i r) := by
  refine pcall_fn (T18_ok N) _ Tryd.func18 ok18 nt18 (by simp) fun _ => ?_
  have hS := T18_ok N
  have F := f0
  unfold ac18 rv18
  unfold D_unit_Volume2 at h
  try simp only [gd_some, Option.bind_eq_some_iff] at h
  obtain ⟨r29, hr29, r31, hr31, hv1, h⟩ := h
  simp only [I64] at hv1
  replace F := fc hr31 (fc hr29 F)
  obtain rfl := Option.some.inj h
  refine go hS F ?_
  exact fin F
end

def s18 (N : Nat) : Spec
  | [.agg [.v (.int .i64 u23), .v (.int .i64 u24), .v (.int .i64 u25), .sl yu26 _ u26 _, .v (.int .i64 u27), .v (.int .i64 u28)]] => some (((yu26 = 2 ∨ u26 = []) ∧ u26 = (u26.map d_ii).map e_ii) ∧ (D_unit_Volume2 N u23 u24 u25 (u26.map d_ii) u27 u28).isSome = true, .i ((D_unit_Volume2 N u23 u24 u25 (u26.map d_ii) u27 u28).getD 0))
  | _ => none
theorem fok18 (N : Nat) : FOK Tryd.prog 18 (s18 N) := ⟨of18, by
  intro args vc r h hv
  unfold s18 at h
  split at h
  · cases h
    obtain ⟨⟨hy0, hr0⟩, hs⟩ := hv
    obtain ⟨r, hr⟩ := Option.isSome_iff_exists.1 hs
    have hk := D_unit_Volume2_ok N _ _ _ _ _ _ r hr
    simp only [hr, Option.getD_some]
    refine PCall.arg ?_ hk
    simp only [wkL, wk, and_true, true_and, Bool.false_eq_true, false_implies, implies_true]
    repeat' (first | exact True.intro | assumption | apply And.intro)
  · simp at h⟩

/-! putlog/unit.density -/
def D_unit_density (N : Nat) (u33 : Int) (u34 : Int) (u35 : Int) (u36 : List (Int × Int)) (u37 : Int) (u38 : Int) : Option Int :=
  (D_unit_Stuff N u35).bind fun ((r39, r40, r41, r42, r43), r44) =>
  some r39

def T31 (N : Nat) : List (Nat × Spec) := [(27, s27 N)]
theorem T31_ok (N : Nat) : TabOK Tryd.prog (tabOf (T31 N)) := tab_cons (fok27 N) (tab_nil)

section
attribute [local go_sem] T31 s27 e_ii de_ii rb_ii d_ii GT_len rowAt_zero rowAt_succ List.set_cons_succ List.isEmpty_map List.map_append List.map_eq_nil_iff ne_eq List.length_replicate takeMap dropMap List.length_set Option.isSome_some
theorem D_unit_density_ok (N : Nat) (u33 : Int) (u34 : Int) (u35 : Int) (u36 : List (Int × Int)) (u37 : Int) (u38 : Int) (r : Int) (h : D_unit_density N u33 u34 u35 u36 u37 u38 = some r) : PCall Tryd.prog 31 [.agg [.i u33, .i u34, .i u35, .sl 2 false (u36.map e_ii) [.i 0, .i 0], .i u37, .i u38]] (.i r) := by
  refine pcall_fn (T31_ok N) _ Tryd.func31 ok31 nt31 (by simp) fun _ => ?_
  have hS := T31_ok N
  have F := f0
  unfold ac31 rv31
  unfold D_unit_density at h
  try simp only [gd_some, Option.bind_eq_some_iff] at h
  obtain ⟨⟨⟨r39, r40, r41, r42, r43⟩, r44⟩, hr44, h⟩ := h
  replace F := fc hr44 F
  obtain rfl := Option.some.inj h
  refine go hS F ?_
  exact fin F
end

def s31 (N : Nat) : Spec
  | [.agg [.v (.int .i64 u33), .v (.int .i64 u34), .v (.int .i64 u35), .sl yu36 _ u36 _, .v (.int .i64 u37), .v (.int .i64 u38)]] => some (((yu36 = 2 ∨ u36 = []) ∧ u36 = (u36.map d_ii).map e_ii) ∧ (D_unit_density N u33 u34 u35 (u36.map d_ii) u37 u38).isSome = true, .i ((D_unit_density N u33 u34 u35 (u36.map d_ii) u37 u38).getD 0))
  | _ => none
theorem fok31 (N : Nat) : FOK Tryd.prog 31 (s31 N) := ⟨of31, by
  intro args vc r h hv
  unfold s31 at h
  split at h
  · cases h
    obtain ⟨⟨hy0, hr0⟩, hs⟩ := hv
    obtain ⟨r, hr⟩ := Option.isSome_iff_exists.1 hs
    have hk := D_unit_density_ok N _ _ _ _ _ _ r hr
    simp only [hr, Option.getD_some]
    refine PCall.arg ?_ hk
    simp only [wkL, wk, and_true, true_and, Bool.false_eq_true, false_implies, implies_true]
    repeat' (first | exact True.intro | assumption | apply And.intro)
  · simp at h⟩

/-! putlog/unit.Weight6 -/
def D_unit_Weight6 (N : Nat) (u46 : Int) (u47 : Int) (u48 : Int) (u49 : List (Int × Int)) (u50 : Int) (u51 : Int) : Option Int :=
  (D_unit_Volume2 N u46 u47 u48 u49 u50 u51).bind fun r52 =>
  gd (I64 (3 * r52)) <|
  (D_unit_density N u46 u47 u48 u49 u50 u51).bind fun r54 =>
  gd (I64 ((3 * r52) * r54)) <|
  some ((3 * r52) * r54)

def T11 (N : Nat) : List (Nat × Spec) := [(18, s18 N), (31, s31 N)]
theorem T11_ok (N : Nat) : TabOK Tryd.prog (tabOf (T11 N)) := tab_cons (fok18 N) (tab_cons (fok31 N) (tab_nil))

section
attribute [local go_sem] T11 s18 s31 e_ii de_ii rb_ii d_ii GT_len rowAt_zero rowAt_succ List.set_cons_succ List.isEmpty_map List.map_append List.map_eq_nil_iff ne_eq List.length_replicate takeMap dropMap List.length_set Option.isSome_some
theorem D_unit_Weight6_ok (N : Nat) (u46 : Int) (u47 : Int) (u48 : Int) (u49 : List (Int × Int)) (u50 : Int) (u51 : Int) (r : Int) (h : D_unit_Weight6 N u46 u47 u48 u49 u50 u51 = some r) : PCall Tryd.prog 11 [.agg [.i u46, .i u47, .i u48, .sl 2 false (u49.map e_ii) [.i 0, .i 0], .i u50, .i u51]] (.i r) := by
  refine pcall_fn (T11_ok N) _ Tryd.func11 ok11 nt11 (by simp) fun _ => ?_
  have hS := T11_ok N
  have F := f0
  unfold ac11 rv11
  unfold D_unit_Weight6 at h
  try simp only [gd_some, Option.bind_eq_some_iff] at h
  obtain ⟨r52, hr52, hv1, r54, hr54, hv2, h⟩ := h
  simp only [I64] at hv1
  simp only [I64] at hv2
  replace F := fc hr54 (fc hr52 F)
  obtain rfl := Option.some.inj h
  refine go hS F ?_
  exact fin F
end

def s11 (N : Nat) : Spec
  | [.agg [.v (.int .i64 u46), .v (.int .i64 u47), .v (.int .i64 u48), .sl yu49 _ u49 _, .v (.int .i64 u50), .v (.int .i64 u51)]] => some (((yu49 = 2 ∨ u49 = []) ∧ u49 = (u49.map d_ii).map e_ii) ∧ (D_unit_Weight6 N u46 u47 u48 (u49.map d_ii) u50 u51).isSome = true, .i ((D_unit_Weight6 N u46 u47 u48 (u49.map d_ii) u50 u51).getD 0))
  | _ => none
theorem fok11 (N : Nat) : FOK Tryd.prog 11 (s11 N) := ⟨of11, by
  intro args vc r h hv
  unfold s11 at h
  split at h
  · cases h
    obtain ⟨⟨hy0, hr0⟩, hs⟩ := hv
    obtain ⟨r, hr⟩ := Option.isSome_iff_exists.1 hs
    have hk := D_unit_Weight6_ok N _ _ _ _ _ _ r hr
    simp only [hr, Option.getD_some]
    refine PCall.arg ?_ hk
    simp only [wkL, wk, and_true, true_and, Bool.false_eq_true, false_implies, implies_true]
    repeat' (first | exact True.intro | assumption | apply And.intro)
  · simp at h⟩

/-! putlog/unit.Moment6 -/
def D_unit_Moment6 (N : Nat) (u56 : Int) (u57 : Int) (u58 : Int) (u59 : List (Int × Int)) (u60 : Int) (u61 : Int) : Option Int :=
  (D_plane_Moments N u59).bind fun (r62, r63) =>
  (D_unit_depth N u56 u57 u58 u59 u60 u61).bind fun r65 =>
  gd (I64 (r62 * r65)) <|
  (D_unit_density N u56 u57 u58 u59 u60 u61).bind fun r67 =>
  gd (I64 ((r62 * r65) * r67)) <|
  some ((r62 * r65) * r67)

def T12 (N : Nat) : List (Nat × Spec) := [(32, s32 N), (33, s33 N), (31, s31 N)]
theorem T12_ok (N : Nat) : TabOK Tryd.prog (tabOf (T12 N)) := tab_cons (fok32 N) (tab_cons (fok33 N) (tab_cons (fok31 N) (tab_nil)))

section
attribute [local go_sem] T12 s32 s33 s31 e_ii de_ii rb_ii d_ii GT_len rowAt_zero rowAt_succ List.set_cons_succ List.isEmpty_map List.map_append List.map_eq_nil_iff ne_eq List.length_replicate takeMap dropMap List.length_set Option.isSome_some
theorem D_unit_Moment6_ok (N : Nat) (u56 : Int) (u57 : Int) (u58 : Int) (u59 : List (Int × Int)) (u60 : Int) (u61 : Int) (r : Int) (h : D_unit_Moment6 N u56 u57 u58 u59 u60 u61 = some r) : PCall Tryd.prog 12 [.agg [.i u56, .i u57, .i u58, .sl 2 false (u59.map e_ii) [.i 0, .i 0], .i u60, .i u61]] (.i r) := by
  refine pcall_fn (T12_ok N) _ Tryd.func12 ok12 nt12 (by simp) fun _ => ?_
  have hS := T12_ok N
  have F := f0
  unfold ac12 rv12
  unfold D_unit_Moment6 at h
  try simp only [gd_some, Option.bind_eq_some_iff] at h
  obtain ⟨⟨r62, r63⟩, hr63, h⟩ := h
  replace F := fc hr63 F
  try simp only [gd_some, Option.bind_eq_some_iff] at h
  obtain ⟨r65, hr65, hv1, r67, hr67, hv2, h⟩ := h
  simp only [I64] at hv1
  simp only [I64] at hv2
  replace F := fc hr67 (fc hr65 F)
  obtain rfl := Option.some.inj h
  refine go hS F ?_
  exact fin F
end

def s12 (N : Nat) : Spec
  | [.agg [.v (.int .i64 u56), .v (.int .i64 u57), .v (.int .i64 u58), .sl yu59 _ u59 _, .v (.int .i64 u60), .v (.int .i64 u61)]] => some (((yu59 = 2 ∨ u59 = []) ∧ u59 = (u59.map d_ii).map e_ii) ∧ (D_unit_Moment6 N u56 u57 u58 (u59.map d_ii) u60 u61).isSome = true, .i ((D_unit_Moment6 N u56 u57 u58 (u59.map d_ii) u60 u61).getD 0))
  | _ => none
theorem fok12 (N : Nat) : FOK Tryd.prog 12 (s12 N) := ⟨of12, by
  intro args vc r h hv
  unfold s12 at h
  split at h
  · cases h
    obtain ⟨⟨hy0, hr0⟩, hs⟩ := hv
    obtain ⟨r, hr⟩ := Option.isSome_iff_exists.1 hs
    have hk := D_unit_Moment6_ok N _ _ _ _ _ _ r hr
    simp only [hr, Option.getD_some]
    refine PCall.arg ?_ hk
    simp only [wkL, wk, and_true, true_and, Bool.false_eq_true, false_implies, implies_true]
    repeat' (first | exact True.intro | assumption | apply And.intro)
  · simp at h⟩

/-! putlog/unit.common -/
def D_unit_common (N : Nat) (a69 : Int) (a70 : Int) (a71 : Int) (a72 : List (Int × Int)) (a73 : Int) (a74 : Int) (b75 : Int) (b76 : Int) (b77 : Int) (b78 : List (Int × Int)) (b79 : Int) (b80 : Int) : Option (Int × Int × Bool) :=
  gd ((decide (max a73 b79 < min a74 b80)) = true → ((D_unit_Valid N a69 a70 a71 a72 a73 a74).isSome = true)) <|
  gd (((decide (max a73 b79 < min a74 b80)) && ((D_unit_Valid N a69 a70 a71 a72 a73 a74).getD false)) = true → ((D_unit_Valid N b75 b76 b77 b78 b79 b80).isSome = true)) <|
  some (max a73 b79, min a74 b80, ((decide (max a73 b79 < min a74 b80)) && ((D_unit_Valid N a69 a70 a71 a72 a73 a74).getD false)) && ((D_unit_Valid N b75 b76 b77 b78 b79 b80).getD false))

def T38 (N : Nat) : List (Nat × Spec) := [(23, s23 N)]
theorem T38_ok (N : Nat) : TabOK Tryd.prog (tabOf (T38 N)) := tab_cons (fok23 N) (tab_nil)

section
attribute [local go_sem] T38 s23 e_ii de_ii rb_ii d_ii GT_len rowAt_zero rowAt_succ List.set_cons_succ List.isEmpty_map List.map_append List.map_eq_nil_iff ne_eq List.length_replicate takeMap dropMap List.length_set Option.isSome_some
theorem D_unit_common_ok (N : Nat) (a69 : Int) (a70 : Int) (a71 : Int) (a72 : List (Int × Int)) (a73 : Int) (a74 : Int) (b75 : Int) (b76 : Int) (b77 : Int) (b78 : List (Int × Int)) (b79 : Int) (b80 : Int) (r : Int × Int × Bool) (h : D_unit_common N a69 a70 a71 a72 a73 a74 b75 b76 b77 b78 b79 b80 = some r) : PCall Tryd.prog 38 [.agg [.i a69, .i a70, .i a71, .sl 2 false (a72.map e_ii) [.i 0, .i 0], .i a73, .i a74], .agg [.i b75, .i b76, .i b77, .sl 2 false (b78.map e_ii) [.i 0, .i 0], .i b79, .i b80]] (.tup [.i r.1, .i r.2.1, .b r.2.2]) := by
  refine pcall_fn (T38_ok N) _ Tryd.func38 ok38 nt38 (by simp) fun _ => ?_
  have hS := T38_ok N
  have F := f0
  unfold ac38 rv38
  unfold D_unit_common at h
  try simp only [gd_some, Option.bind_eq_some_iff] at h
  obtain ⟨hv1, hv2, h⟩ := h
  obtain rfl := Option.some.inj h
  refine go hS F ?_
  exact fin F
end

def s38 (N : Nat) : Spec
  | [.agg [.v (.int .i64 a69), .v (.int .i64 a70), .v (.int .i64 a71), .sl ya72 _ a72 _, .v (.int .i64 a73), .v (.int .i64 a74)], .agg [.v (.int .i64 b75), .v (.int .i64 b76), .v (.int .i64 b77), .sl yb78 _ b78 _, .v (.int .i64 b79), .v (.int .i64 b80)]] => some (((ya72 = 2 ∨ a72 = []) ∧ a72 = (a72.map d_ii).map e_ii) ∧ ((yb78 = 2 ∨ b78 = []) ∧ b78 = (b78.map d_ii).map e_ii) ∧ (D_unit_common N a69 a70 a71 (a72.map d_ii) a73 a74 b75 b76 b77 (b78.map d_ii) b79 b80).isSome = true, .tup [.i (((D_unit_common N a69 a70 a71 (a72.map d_ii) a73 a74 b75 b76 b77 (b78.map d_ii) b79 b80).getD (0, 0, false)).1), .i (((D_unit_common N a69 a70 a71 (a72.map d_ii) a73 a74 b75 b76 b77 (b78.map d_ii) b79 b80).getD (0, 0, false)).2.1), .b (((D_unit_common N a69 a70 a71 (a72.map d_ii) a73 a74 b75 b76 b77 (b78.map d_ii) b79 b80).getD (0, 0, false)).2.2)])
  | _ => none
theorem fok38 (N : Nat) : FOK Tryd.prog 38 (s38 N) := ⟨of38, by
  intro args vc r h hv
  unfold s38 at h
  split at h
  · cases h
    obtain ⟨⟨hy0, hr0⟩, ⟨hy1, hr1⟩, hs⟩ := hv
    obtain ⟨r, hr⟩ := Option.isSome_iff_exists.1 hs
    have hk := D_unit_common_ok N _ _ _ _ _ _ _ _ _ _ _ _ r hr
    simp only [hr, Option.getD_some]
    refine PCall.arg ?_ hk
    simp only [wkL, wk, and_true, true_and, Bool.false_eq_true, false_implies, implies_true]
    repeat' (first | exact True.intro | assumption | apply And.intro)
  · simp at h⟩

/-! putlog/unit.Overlap -/
def D_unit_Overlap (N : Nat) (a81 : Int) (a82 : Int) (a83 : Int) (a84 : List (Int × Int)) (a85 : Int) (a86 : Int) (b87 : Int) (b88 : Int) (b89 : Int) (b90 : List (Int × Int)) (b91 : Int) (b92 : Int) : Option Bool :=
  (D_unit_common N a81 a82 a83 a84 a85 a86 b87 b88 b89 b90 b91 b92).bind fun (r93, r94, r95) =>
  gd (r95 = true → ((D_plane_Overlap N a84 b90).isSome = true)) <|
  some (r95 && ((D_plane_Overlap N a84 b90).getD false))

def T19 (N : Nat) : List (Nat × Spec) := [(38, s38 N), (41, s41 N)]
theorem T19_ok (N : Nat) : TabOK Tryd.prog (tabOf (T19 N)) := tab_cons (fok38 N) (tab_cons (fok41 N) (tab_nil))

section
attribute [local go_sem] T19 s38 s41 e_ii de_ii rb_ii d_ii GT_len rowAt_zero rowAt_succ List.set_cons_succ List.isEmpty_map List.map_append List.map_eq_nil_iff ne_eq List.length_replicate takeMap dropMap List.length_set Option.isSome_some
theorem D_unit_Overlap_ok (N : Nat) (a81 : Int) (a82 : Int) (a83 : Int) (a84 : List (Int × Int)) (a85 : Int) (a86 : Int) (b87 : Int) (b88 : Int) (b89 : Int) (b90 : List (Int × Int)) (b91 : Int) (b92 : Int) (r : Bool) (h : D_unit_Overlap N a81 a82 a83 a84 a85 a86 b87 b88 b89 b90 b91 b92 = some r) : PCall Tryd.prog 19 [.agg [.i a81, .i a82, .i a83, .sl 2 false (a84.map e_ii) [.i 0, .i 0], .i a85, .i a86], .agg [.i b87, .i b88, .i b89, .sl 2 false (b90.map e_ii) [.i 0, .i 0], .i b91, .i b92]] (.b r) := by
  refine pcall_fn (T19_ok N) _ Tryd.func19 ok19 nt19 (by simp) fun _ => ?_
  have hS := T19_ok N
  have F := f0
  unfold ac19 rv19
  unfold D_unit_Overlap at h
  try simp only [gd_some, Option.bind_eq_some_iff] at h
  obtain ⟨⟨r93, r94, r95⟩, hr95, h⟩ := h
  replace F := fc hr95 F
  try simp only [gd_some, Option.bind_eq_some_iff] at h
  obtain ⟨hv1, h⟩ := h
  obtain rfl := Option.some.inj h
  refine go hS F ?_
  exact fin F
end

def s19 (N : Nat) : Spec
  | [.agg [.v (.int .i64 a81), .v (.int .i64 a82), .v (.int .i64 a83), .sl ya84 _ a84 _, .v (.int .i64 a85), .v (.int .i64 a86)], .agg [.v (.int .i64 b87), .v (.int .i64 b88), .v (.int .i64 b89), .sl yb90 _ b90 _, .v (.int .i64 b91), .v (.int .i64 b92)]] => some (((ya84 = 2 ∨ a84 = []) ∧ a84 = (a84.map d_ii).map e_ii) ∧ ((yb90 = 2 ∨ b90 = []) ∧ b90 = (b90.map d_ii).map e_ii) ∧ (D_unit_Overlap N a81 a82 a83 (a84.map d_ii) a85 a86 b87 b88 b89 (b90.map d_ii) b91 b92).isSome = true, .b ((D_unit_Overlap N a81 a82 a83 (a84.map d_ii) a85 a86 b87 b88 b89 (b90.map d_ii) b91 b92).getD false))
  | _ => none
theorem fok19 (N : Nat) : FOK Tryd.prog 19 (s19 N) := ⟨of19, by
  intro args vc r h hv
  unfold s19 at h
  split at h
  · cases h
    obtain ⟨⟨hy0, hr0⟩, ⟨hy1, hr1⟩, hs⟩ := hv
    obtain ⟨r, hr⟩ := Option.isSome_iff_exists.1 hs
    have hk := D_unit_Overlap_ok N _ _ _ _ _ _ _ _ _ _ _ _ r hr
    simp only [hr, Option.getD_some]
    refine PCall.arg ?_ hk
    simp only [wkL, wk, and_true, true_and, Bool.false_eq_true, false_implies, implies_true]
    repeat' (first | exact True.intro | assumption | apply And.intro)
  · simp at h⟩

/-! putlog/unit.Touch -/
def D_unit_Touch (N : Nat) (a97 : Int) (a98 : Int) (a99 : Int) (a100 : List (Int × Int)) (a101 : Int) (a102 : Int) (b103 : Int) (b104 : Int) (b105 : Int) (b106 : List (Int × Int)) (b107 : Int) (b108 : Int) : Option ((Int × Int × ((Int × Int) × (Int × Int)) × Int × Int) × Bool) :=
  (D_unit_common N a97 a98 a99 a100 a101 a102 b103 b104 b105 b106 b107 b108).bind fun (r109, r110, r111) =>
  bif !r111 then (
    some ((0, 0, ((0, 0), (0, 0)), 0, 0), false))
  else (
    (D_plane_Seam N a100 b106).bind fun (((r113, r114), (r115, r116)), r117) =>
    bif !r117 then (
      some ((0, 0, ((0, 0), (0, 0)), 0, 0), false))
    else (
      some ((a97, b103, ((r113, r114), (r115, r116)), r109, r110), true)))

def T16 (N : Nat) : List (Nat × Spec) := [(38, s38 N), (39, s39 N)]
theorem T16_ok (N : Nat) : TabOK Tryd.prog (tabOf (T16 N)) := tab_cons (fok38 N) (tab_cons (fok39 N) (tab_nil))

section
attribute [local go_sem] T16 s38 s39 e_ii de_ii rb_ii d_ii GT_len rowAt_zero rowAt_succ List.set_cons_succ List.isEmpty_map List.map_append List.map_eq_nil_iff ne_eq List.length_replicate takeMap dropMap List.length_set Option.isSome_some
theorem D_unit_Touch_ok (N : Nat) (a97 : Int) (a98 : Int) (a99 : Int) (a100 : List (Int × Int)) (a101 : Int) (a102 : Int) (b103 : Int) (b104 : Int) (b105 : Int) (b106 : List (Int × Int)) (b107 : Int) (b108 : Int) (r : (Int × Int × ((Int × Int) × (Int × Int)) × Int × Int) × Bool) (h : D_unit_Touch N a97 a98 a99 a100 a101 a102 b103 b104 b105 b106 b107 b108 = some r) : PCall Tryd.prog 16 [.agg [.i a97, .i a98, .i a99, .sl 2 false (a100.map e_ii) [.i 0, .i 0], .i a101, .i a102], .agg [.i b103, .i b104, .i b105, .sl 2 false (b106.map e_ii) [.i 0, .i 0], .i b107, .i b108]] (.tup [.agg [.i r.1.1, .i r.1.2.1, .i r.1.2.2.1.1.1, .i r.1.2.2.1.1.2, .i r.1.2.2.1.2.1, .i r.1.2.2.1.2.2, .i r.1.2.2.2.1, .i r.1.2.2.2.2], .b r.2]) := by
  refine pcall_fn (T16_ok N) _ Tryd.func16 ok16 nt16 (by simp) fun _ => ?_
  have hS := T16_ok N
  have F := f0
  unfold ac16 rv16
  unfold D_unit_Touch at h
  try simp only [gd_some, Option.bind_eq_some_iff] at h
  obtain ⟨⟨r109, r110, r111⟩, hr111, h⟩ := h
  replace F := fc hr111 F
  refine go hS F ?_
  refine cb F (!r111) (fun hc1 => ?_) (fun hc1 => ?_)
  · replace h := cond_t hc1 h
    obtain rfl := Option.some.inj h
    refine go hS F ?_
    exact fin F
  · replace h := cond_f hc1 h
    try simp only [gd_some, Option.bind_eq_some_iff] at h
    obtain ⟨⟨⟨⟨r113, r114⟩, ⟨r115, r116⟩⟩, r117⟩, hr117, h⟩ := h
    replace F := fc hr117 F
    refine go hS F ?_
    refine cb F (!r117) (fun hc2 => ?_) (fun hc2 => ?_)
    · replace h := cond_t hc2 h
      obtain rfl := Option.some.inj h
      refine go hS F ?_
      exact fin F
    · replace h := cond_f hc2 h
      obtain rfl := Option.some.inj h
      refine go hS F ?_
      exact fin F
end

def s16 (N : Nat) : Spec
  | [.agg [.v (.int .i64 a97), .v (.int .i64 a98), .v (.int .i64 a99), .sl ya100 _ a100 _, .v (.int .i64 a101), .v (.int .i64 a102)], .agg [.v (.int .i64 b103), .v (.int .i64 b104), .v (.int .i64 b105), .sl yb106 _ b106 _, .v (.int .i64 b107), .v (.int .i64 b108)]] => some (((ya100 = 2 ∨ a100 = []) ∧ a100 = (a100.map d_ii).map e_ii) ∧ ((yb106 = 2 ∨ b106 = []) ∧ b106 = (b106.map d_ii).map e_ii) ∧ (D_unit_Touch N a97 a98 a99 (a100.map d_ii) a101 a102 b103 b104 b105 (b106.map d_ii) b107 b108).isSome = true, .tup [.agg [.i ((((D_unit_Touch N a97 a98 a99 (a100.map d_ii) a101 a102 b103 b104 b105 (b106.map d_ii) b107 b108).getD ((0, 0, ((0, 0), (0, 0)), 0, 0), false)).1).1), .i ((((D_unit_Touch N a97 a98 a99 (a100.map d_ii) a101 a102 b103 b104 b105 (b106.map d_ii) b107 b108).getD ((0, 0, ((0, 0), (0, 0)), 0, 0), false)).1).2.1), .i ((((((D_unit_Touch N a97 a98 a99 (a100.map d_ii) a101 a102 b103 b104 b105 (b106.map d_ii) b107 b108).getD ((0, 0, ((0, 0), (0, 0)), 0, 0), false)).1).2.2.1).1).1), .i ((((((D_unit_Touch N a97 a98 a99 (a100.map d_ii) a101 a102 b103 b104 b105 (b106.map d_ii) b107 b108).getD ((0, 0, ((0, 0), (0, 0)), 0, 0), false)).1).2.2.1).1).2), .i ((((((D_unit_Touch N a97 a98 a99 (a100.map d_ii) a101 a102 b103 b104 b105 (b106.map d_ii) b107 b108).getD ((0, 0, ((0, 0), (0, 0)), 0, 0), false)).1).2.2.1).2).1), .i ((((((D_unit_Touch N a97 a98 a99 (a100.map d_ii) a101 a102 b103 b104 b105 (b106.map d_ii) b107 b108).getD ((0, 0, ((0, 0), (0, 0)), 0, 0), false)).1).2.2.1).2).2), .i ((((D_unit_Touch N a97 a98 a99 (a100.map d_ii) a101 a102 b103 b104 b105 (b106.map d_ii) b107 b108).getD ((0, 0, ((0, 0), (0, 0)), 0, 0), false)).1).2.2.2.1), .i ((((D_unit_Touch N a97 a98 a99 (a100.map d_ii) a101 a102 b103 b104 b105 (b106.map d_ii) b107 b108).getD ((0, 0, ((0, 0), (0, 0)), 0, 0), false)).1).2.2.2.2)], .b (((D_unit_Touch N a97 a98 a99 (a100.map d_ii) a101 a102 b103 b104 b105 (b106.map d_ii) b107 b108).getD ((0, 0, ((0, 0), (0, 0)), 0, 0), false)).2)])
  | _ => none
theorem fok16 (N : Nat) : FOK Tryd.prog 16 (s16 N) := ⟨of16, by
  intro args vc r h hv
  unfold s16 at h
  split at h
  · cases h
    obtain ⟨⟨hy0, hr0⟩, ⟨hy1, hr1⟩, hs⟩ := hv
    obtain ⟨r, hr⟩ := Option.isSome_iff_exists.1 hs
    have hk := D_unit_Touch_ok N _ _ _ _ _ _ _ _ _ _ _ _ r hr
    simp only [hr, Option.getD_some]
    refine PCall.arg ?_ hk
    simp only [wkL, wk, and_true, true_and, Bool.false_eq_true, false_implies, implies_true]
    repeat' (first | exact True.intro | assumption | apply And.intro)
  · simp at h⟩

/-! putlog/unit.Stands -/
def D_unit_Stands_L1 (N : Nat) (u122 : List (Int × Int)) (u119 : Int) (u123 : Int) (u124 : Int) : Nat → Int → Option (Sum Unit (((Int × Int × ((Int × Int) × (Int × Int)) × Int × Int) × Bool)))
  | 0, _ => none
  | n + 1, x135 =>
    bif decide (x135 < (u122.length : Int)) then (
      (nth u122 x135).bind fun (x136, x137) =>
      gd (I64 (x135 + 1)) <|
      gd ((u122.length : Int) ≠ 0) <|
      (nth u122 ((x135 + 1).tmod (u122.length : Int))).bind fun (x139, x140) =>
      bif (decide (x137 = 0)) && (decide (x140 = 0)) then (
        some (.inr ((u119, (-1), ((x136, x137), (x139, x140)), u123, u124), true)))
      else (
        gd (I64 (x135 + 1)) <|
        D_unit_Stands_L1 N u122 u119 u123 u124 n (x135 + 1)))
    else (
      some (.inl ()))

def D_unit_Stands (N : Nat) (u119 : Int) (u120 : Int) (u121 : Int) (u122 : List (Int × Int)) (u123 : Int) (u124 : Int) : Option ((Int × Int × ((Int × Int) × (Int × Int)) × Int × Int) × Bool) :=
  (D_unit_Valid N u119 u120 u121 u122 u123 u124).bind fun r125 =>
  bif !r125 then (
    some ((0, 0, ((0, 0), (0, 0)), 0, 0), false))
  else (
    (D_unit_Stands_L1 N u122 u119 u123 u124 N 0).bind fun o146 => match o146 with
      | .inl () => (
        some ((0, 0, ((0, 0), (0, 0)), 0, 0), false))
      | .inr r145 => (
        some r145))

def T20 (N : Nat) : List (Nat × Spec) := [(23, s23 N)]
theorem T20_ok (N : Nat) : TabOK Tryd.prog (tabOf (T20 N)) := tab_cons (fok23 N) (tab_nil)

section
attribute [local go_sem] T20 s23 e_ii de_ii rb_ii d_ii GT_len rowAt_zero rowAt_succ List.set_cons_succ List.isEmpty_map List.map_append List.map_eq_nil_iff ne_eq List.length_replicate takeMap dropMap List.length_set Option.isSome_some
theorem D_unit_Stands_ok (N : Nat) (u119 : Int) (u120 : Int) (u121 : Int) (u122 : List (Int × Int)) (u123 : Int) (u124 : Int) (r : (Int × Int × ((Int × Int) × (Int × Int)) × Int × Int) × Bool) (h : D_unit_Stands N u119 u120 u121 u122 u123 u124 = some r) : PCall Tryd.prog 20 [.agg [.i u119, .i u120, .i u121, .sl 2 false (u122.map e_ii) [.i 0, .i 0], .i u123, .i u124]] (.tup [.agg [.i r.1.1, .i r.1.2.1, .i r.1.2.2.1.1.1, .i r.1.2.2.1.1.2, .i r.1.2.2.1.2.1, .i r.1.2.2.1.2.2, .i r.1.2.2.2.1, .i r.1.2.2.2.2], .b r.2]) := by
  refine pcall_fn (T20_ok N) _ Tryd.func20 ok20 nt20 (by simp) fun _ => ?_
  have hS := T20_ok N
  have F := f0
  unfold ac20 rv20
  unfold D_unit_Stands at h
  try simp only [gd_some, Option.bind_eq_some_iff] at h
  obtain ⟨r125, hr125, h⟩ := h
  replace F := fc hr125 F
  refine go hS F ?_
  refine cb F (!r125) (fun hc1 => ?_) (fun hc1 => ?_)
  · replace h := cond_t hc1 h
    obtain rfl := Option.some.inj h
    refine go hS F ?_
    exact fin F
  · replace h := cond_f hc1 h
    try simp only [gd_some, Option.bind_eq_some_iff] at h
    obtain ⟨o146, hL2, h⟩ := h
    refine go hS F ?_
    refine awp_cut (fun z : Nat => ⟨[(2, .box (1, 1) 0)], [(.c (1, 1) 0, .i 0), (.c (1, 1) 1, .i 0), (.c (1, 1) 2, .i 0), (.c (1, 1) 3, .i 0), (.c (1, 1) 4, .i 0), (.c (1, 1) 5, .i 0), (.c (1, 1) 6, .i 0), (.c (1, 1) 7, .i 0)], z⟩) (fun z => (.inl () : Sum Unit (((Int × Int × ((Int × Int) × (Int × Int)) × Int × Int) × Bool))) = o146) (.x 0) ?_ ?_
    · refine awp_loop (fun y : Nat × Int × Nat => ⟨[(1, .box (0, 1) 0), (2, .box (1, 1) 0), (12, .sl 2 false (u122.map e_ii) [.i 0, .i 0]), (13, .i (u122.length : Int)), (14, .i y.2.1)], [(.c (1, 1) 0, .i 0), (.c (1, 1) 1, .i 0), (.c (1, 1) 2, .i 0), (.c (1, 1) 3, .i 0), (.c (1, 1) 4, .i 0), (.c (1, 1) 5, .i 0), (.c (1, 1) 6, .i 0), (.c (1, 1) 7, .i 0), (.c (0, 1) 0, .i u119), (.c (0, 1) 1, .i u120), (.c (0, 1) 2, .i u121), (.c (0, 1) 3, .sl 2 false (u122.map e_ii) [.i 0, .i 0]), (.c (0, 1) 4, .i u123), (.c (0, 1) 5, .i u124)], y.2.2⟩) (fun y => D_unit_Stands_L1 N u122 u119 u123 u124 y.1 y.2.1 = some o146) (fun y => y.1) (N, 0, 3) hL2 ?_ ?_
      · exact leF F
      · rintro ⟨n, x135, c134⟩ hB3
        try simp only at hB3
        obtain _ | n := n
        · exact absurd hB3 (by simp [D_unit_Stands_L1])
        rw [D_unit_Stands_L1] at hB3
        refine go hS F ?_
        refine cb F (decide (x135 < (u122.length : Int))) (fun hc4 => ?_) (fun hc4 => ?_)
        · replace hB3 := cond_t hc4 hB3
          try simp only [gd_some, Option.bind_eq_some_iff] at hB3
          obtain ⟨⟨x136, x137⟩, hn137, hB3⟩ := hB3
          have hx137 : u122.getD x135.toNat (0, 0) = (x136, x137) := ixs hn137 _
          have hb137 := (nth_some hn137).1
          replace F := fc hx137 F
          try simp only [gd_some, Option.bind_eq_some_iff] at hB3
          obtain ⟨hv5, hv6, ⟨x139, x140⟩, hn140, hB3⟩ := hB3
          simp only [I64] at hv5
          have hx140 : u122.getD ((x135 + 1).tmod (u122.length : Int)).toNat (0, 0) = (x139, x140) := ixs hn140 _
          have hb140 := (nth_some hn140).1
          replace F := fc hx140 F
          refine go hS F ?_
          refine cb F ((decide (x137 = 0)) && (decide (x140 = 0))) (fun hc7 => ?_) (fun hc7 => ?_)
          · replace hB3 := cond_t hc7 hB3
            obtain rfl := Option.some.inj hB3
            try simp only at h
            obtain rfl := Option.some.inj h
            refine go hS F ?_
            exact fin F
          · replace hB3 := cond_f hc7 hB3
            try simp only [gd_some, Option.bind_eq_some_iff] at hB3
            obtain ⟨hv8, hB3⟩ := hB3
            simp only [I64] at hv8
            refine go hS F ?_
            exact backK_n (n, x135 + 1, c134 + 1 + 1 + 1 + 1 + 1) hB3 (Nat.lt_succ_self _) (leF F)
        · replace hB3 := cond_f hc4 hB3
          refine go hS F ?_
          exact cutK_h (c134 + 1) (Option.some.inj hB3) (leF F)
    · rintro c144 hz9
      subst hz9
      try simp only at h
      obtain rfl := Option.some.inj h
      refine go hS F ?_
      exact fin F
end

def s20 (N : Nat) : Spec
  | [.agg [.v (.int .i64 u119), .v (.int .i64 u120), .v (.int .i64 u121), .sl yu122 _ u122 _, .v (.int .i64 u123), .v (.int .i64 u124)]] => some (((yu122 = 2 ∨ u122 = []) ∧ u122 = (u122.map d_ii).map e_ii) ∧ (D_unit_Stands N u119 u120 u121 (u122.map d_ii) u123 u124).isSome = true, .tup [.agg [.i ((((D_unit_Stands N u119 u120 u121 (u122.map d_ii) u123 u124).getD ((0, 0, ((0, 0), (0, 0)), 0, 0), false)).1).1), .i ((((D_unit_Stands N u119 u120 u121 (u122.map d_ii) u123 u124).getD ((0, 0, ((0, 0), (0, 0)), 0, 0), false)).1).2.1), .i ((((((D_unit_Stands N u119 u120 u121 (u122.map d_ii) u123 u124).getD ((0, 0, ((0, 0), (0, 0)), 0, 0), false)).1).2.2.1).1).1), .i ((((((D_unit_Stands N u119 u120 u121 (u122.map d_ii) u123 u124).getD ((0, 0, ((0, 0), (0, 0)), 0, 0), false)).1).2.2.1).1).2), .i ((((((D_unit_Stands N u119 u120 u121 (u122.map d_ii) u123 u124).getD ((0, 0, ((0, 0), (0, 0)), 0, 0), false)).1).2.2.1).2).1), .i ((((((D_unit_Stands N u119 u120 u121 (u122.map d_ii) u123 u124).getD ((0, 0, ((0, 0), (0, 0)), 0, 0), false)).1).2.2.1).2).2), .i ((((D_unit_Stands N u119 u120 u121 (u122.map d_ii) u123 u124).getD ((0, 0, ((0, 0), (0, 0)), 0, 0), false)).1).2.2.2.1), .i ((((D_unit_Stands N u119 u120 u121 (u122.map d_ii) u123 u124).getD ((0, 0, ((0, 0), (0, 0)), 0, 0), false)).1).2.2.2.2)], .b (((D_unit_Stands N u119 u120 u121 (u122.map d_ii) u123 u124).getD ((0, 0, ((0, 0), (0, 0)), 0, 0), false)).2)])
  | _ => none
theorem fok20 (N : Nat) : FOK Tryd.prog 20 (s20 N) := ⟨of20, by
  intro args vc r h hv
  unfold s20 at h
  split at h
  · cases h
    obtain ⟨⟨hy0, hr0⟩, hs⟩ := hv
    obtain ⟨r, hr⟩ := Option.isSome_iff_exists.1 hs
    have hk := D_unit_Stands_ok N _ _ _ _ _ _ r hr
    simp only [hr, Option.getD_some]
    refine PCall.arg ?_ hk
    simp only [wkL, wk, and_true, true_and, Bool.false_eq_true, false_implies, implies_true]
    repeat' (first | exact True.intro | assumption | apply And.intro)
  · simp at h⟩

/-! putlog/unit.Move -/
def D_unit_Move (N : Nat) (u147 : Int) (u148 : Int) (u149 : Int) (u150 : List (Int × Int)) (u151 : Int) (u152 : Int) (dx153 : Int) (dy154 : Int) : Option ((Int × Int × Int × (List (Int × Int)) × Int × Int) × Int) :=
  (D_plane_Move N u150 dx153 dy154).bind fun (r155, r156) =>
  gd ((!(decide (r156 ≠ 0))) = true → ((D_unit_Valid N u147 u148 u149 u150 u151 u152).isSome = true)) <|
  bif (decide (r156 ≠ 0)) || (!((D_unit_Valid N u147 u148 u149 u150 u151 u152).getD false)) then (
    some ((0, 0, 0, [], 0, 0), 80))
  else (
    some ((u147, u148, u149, r155, u151, u152), 0))

def T14 (N : Nat) : List (Nat × Spec) := [(15, s15 N), (23, s23 N)]
theorem T14_ok (N : Nat) : TabOK Tryd.prog (tabOf (T14 N)) := tab_cons (fok15 N) (tab_cons (fok23 N) (tab_nil))

section
attribute [local go_sem] T14 s15 s23 e_ii de_ii rb_ii d_ii GT_len rowAt_zero rowAt_succ List.set_cons_succ List.isEmpty_map List.map_append List.map_eq_nil_iff ne_eq List.length_replicate takeMap dropMap List.length_set Option.isSome_some
theorem D_unit_Move_ok (N : Nat) (u147 : Int) (u148 : Int) (u149 : Int) (u150 : List (Int × Int)) (u151 : Int) (u152 : Int) (dx153 : Int) (dy154 : Int) (r : (Int × Int × Int × (List (Int × Int)) × Int × Int) × Int) (h : D_unit_Move N u147 u148 u149 u150 u151 u152 dx153 dy154 = some r) : PCall Tryd.prog 14 [.agg [.i u147, .i u148, .i u149, .sl 2 false (u150.map e_ii) [.i 0, .i 0], .i u151, .i u152], .i dx153, .i dy154] (.tup [.agg [.i r.1.1, .i r.1.2.1, .i r.1.2.2.1, .sl 2 false (r.1.2.2.2.1.map e_ii) [.i 0, .i 0], .i r.1.2.2.2.2.1, .i r.1.2.2.2.2.2], .i r.2]) := by
  refine pcall_fn (T14_ok N) _ Tryd.func14 ok14 nt14 (by simp) fun _ => ?_
  have hS := T14_ok N
  have F := f0
  unfold ac14 rv14
  unfold D_unit_Move at h
  try simp only [gd_some, Option.bind_eq_some_iff] at h
  obtain ⟨⟨r155, r156⟩, hr156, h⟩ := h
  replace F := fc hr156 F
  try simp only [gd_some, Option.bind_eq_some_iff] at h
  obtain ⟨hv1, h⟩ := h
  refine go hS F ?_
  refine cb F ((decide (r156 ≠ 0)) || (!((D_unit_Valid N u147 u148 u149 u150 u151 u152).getD false))) (fun hc2 => ?_) (fun hc2 => ?_)
  · replace h := cond_t hc2 h
    obtain rfl := Option.some.inj h
    refine go hS F ?_
    exact fin F
  · replace h := cond_f hc2 h
    obtain rfl := Option.some.inj h
    refine go hS F ?_
    exact fin F
end

def s14 (N : Nat) : Spec
  | [.agg [.v (.int .i64 u147), .v (.int .i64 u148), .v (.int .i64 u149), .sl yu150 _ u150 _, .v (.int .i64 u151), .v (.int .i64 u152)], .v (.int .i64 dx153), .v (.int .i64 dy154)] => some (((yu150 = 2 ∨ u150 = []) ∧ u150 = (u150.map d_ii).map e_ii) ∧ (D_unit_Move N u147 u148 u149 (u150.map d_ii) u151 u152 dx153 dy154).isSome = true, .tup [.agg [.i ((((D_unit_Move N u147 u148 u149 (u150.map d_ii) u151 u152 dx153 dy154).getD ((0, 0, 0, [], 0, 0), 0)).1).1), .i ((((D_unit_Move N u147 u148 u149 (u150.map d_ii) u151 u152 dx153 dy154).getD ((0, 0, 0, [], 0, 0), 0)).1).2.1), .i ((((D_unit_Move N u147 u148 u149 (u150.map d_ii) u151 u152 dx153 dy154).getD ((0, 0, 0, [], 0, 0), 0)).1).2.2.1), .sl 2 false (((((D_unit_Move N u147 u148 u149 (u150.map d_ii) u151 u152 dx153 dy154).getD ((0, 0, 0, [], 0, 0), 0)).1).2.2.2.1).map e_ii) [.i 0, .i 0], .i ((((D_unit_Move N u147 u148 u149 (u150.map d_ii) u151 u152 dx153 dy154).getD ((0, 0, 0, [], 0, 0), 0)).1).2.2.2.2.1), .i ((((D_unit_Move N u147 u148 u149 (u150.map d_ii) u151 u152 dx153 dy154).getD ((0, 0, 0, [], 0, 0), 0)).1).2.2.2.2.2)], .i (((D_unit_Move N u147 u148 u149 (u150.map d_ii) u151 u152 dx153 dy154).getD ((0, 0, 0, [], 0, 0), 0)).2)])
  | _ => none
theorem fok14 (N : Nat) : FOK Tryd.prog 14 (s14 N) := ⟨of14, by
  intro args vc r h hv
  unfold s14 at h
  split at h
  · cases h
    obtain ⟨⟨hy0, hr0⟩, hs⟩ := hv
    obtain ⟨r, hr⟩ := Option.isSome_iff_exists.1 hs
    have hk := D_unit_Move_ok N _ _ _ _ _ _ _ _ r hr
    simp only [hr, Option.getD_some]
    refine PCall.arg ?_ hk
    simp only [wkL, wk, and_true, true_and, Bool.false_eq_true, false_implies, implies_true]
    repeat' (first | exact True.intro | assumption | apply And.intro)
  · simp at h⟩

/-! putlog/unit.Faces -/
def D_unit_Faces_L2 (N : Nat) (u161 : List (Int × Int)) (u158 : Int) : Nat → Int → (List (Int × Int)) → Option ((List (Int × Int)))
  | 0, _, _ => none
  | n + 1, x171, l172 =>
    bif decide (x171 < (u161.length : Int)) then (
      gd ((l172.length + 1) * 16 ≤ 140737488355328) <|
      gd (I64 (x171 + 1)) <|
      D_unit_Faces_L2 N u161 u158 n (x171 + 1) (l172 ++ [(u158, x171)]))
    else (
      some l172)

def D_unit_Faces (N : Nat) (u158 : Int) (u159 : Int) (u160 : Int) (u161 : List (Int × Int)) (u162 : Int) (u163 : Int) : Option (List (Int × Int)) :=
  (D_unit_Valid N u158 u159 u160 u161 u162 u163).bind fun r164 =>
  bif !r164 then (
    some [])
  else (
    (D_unit_Faces_L2 N u161 u158 N 0 []).bind fun l177 =>
    gd ((l177.length + 1) * 16 ≤ 140737488355328) <|
    gd (((l177 ++ [(u158, (-1))]).length + 1) * 16 ≤ 140737488355328) <|
    some (l177 ++ [(u158, (-1))] ++ [(u158, (-2))]))

def T28 (N : Nat) : List (Nat × Spec) := [(23, s23 N)]
theorem T28_ok (N : Nat) : TabOK Tryd.prog (tabOf (T28 N)) := tab_cons (fok23 N) (tab_nil)

section
attribute [local go_sem] T28 s23 e_i de_i rb_i d_i e_ii de_ii rb_ii d_ii GT_len rowAt_zero rowAt_succ List.set_cons_succ List.isEmpty_map List.map_append List.map_eq_nil_iff ne_eq List.length_replicate takeMap dropMap List.length_set Option.isSome_some
theorem D_unit_Faces_ok (N : Nat) (u158 : Int) (u159 : Int) (u160 : Int) (u161 : List (Int × Int)) (u162 : Int) (u163 : Int) (r : List (Int × Int)) (h : D_unit_Faces N u158 u159 u160 u161 u162 u163 = some r) : PCall Tryd.prog 28 [.agg [.i u158, .i u159, .i u160, .sl 2 false (u161.map e_ii) [.i 0, .i 0], .i u162, .i u163]] (.sl 2 false (r.map e_ii) [.i 0, .i 0]) := by
  refine pcall_fn (T28_ok N) _ Tryd.func28 ok28 nt28 (by simp) fun _ => ?_
  have hS := T28_ok N
  have F := f0
  unfold ac28 rv28
  unfold D_unit_Faces at h
  try simp only [gd_some, Option.bind_eq_some_iff] at h
  obtain ⟨r164, hr164, h⟩ := h
  replace F := fc hr164 F
  refine go hS F ?_
  refine cb F (!r164) (fun hc1 => ?_) (fun hc1 => ?_)
  · replace h := cond_t hc1 h
    obtain rfl := Option.some.inj h
    refine go hS F ?_
    exact fin F
  · replace h := cond_f hc1 h
    refine go hS F ?_
    refine awp_claimCk 1000001 (300, 3) 0 2 [.i 0, .i 0] (by omega) (by simp only [go_sem, seval, F] <;> eq_refl) ?_
    try simp only [gd_some, Option.bind_eq_some_iff] at h
    obtain ⟨o178, hL2, h⟩ := h
    refine go hS F ?_
    refine awp_cut (fun z : (List (Int × Int)) × Nat => ⟨[(3, .box (300, 3) 0), (4, .clo (.func 50) [] [.box (300, 3) 0, .box (0, 1) 0])], [(.c (0, 1) 0, .i u158), (.c (0, 1) 1, .i u159), (.c (0, 1) 2, .i u160), (.c (0, 1) 3, .sl 2 false (u161.map e_ii) [.i 0, .i 0]), (.c (0, 1) 4, .i u162), (.c (0, 1) 5, .i u163), (.c (300, 3) 0, .own (1000001, 6) z.1.length), (.a (1000001, 6), .sl 2 true (z.1.map e_ii) [.i 0, .i 0])], z.2⟩) (fun z => (z.1 : (List (Int × Int))) = o178) (.x 0) ?_ ?_
    · refine awp_loop (fun y : Nat × Int × (List (Int × Int)) × Nat => ⟨[(3, .box (300, 3) 0), (4, .clo (.func 50) [] [.box (300, 3) 0, .box (0, 1) 0]), (12, .i (u161.length : Int)), (13, .i y.2.1)], [(.c (0, 1) 0, .i u158), (.c (0, 1) 1, .i u159), (.c (0, 1) 2, .i u160), (.c (0, 1) 3, .sl 2 false (u161.map e_ii) [.i 0, .i 0]), (.c (0, 1) 4, .i u162), (.c (0, 1) 5, .i u163), (.c (300, 3) 0, .own (1000001, 6) y.2.2.1.length), (.a (1000001, 6), .sl 2 true (y.2.2.1.map e_ii) [.i 0, .i 0])], y.2.2.2⟩) (fun y => D_unit_Faces_L2 N u161 u158 y.1 y.2.1 y.2.2.1 = some o178) (fun y => y.1) (N, 0, [], 6) hL2 ?_ ?_
      · exact leF F
      · rintro ⟨n, x171, l172, c170⟩ hB3
        try simp only at hB3
        obtain _ | n := n
        · exact absurd hB3 (by simp [D_unit_Faces_L2])
        rw [D_unit_Faces_L2] at hB3
        refine go hS F ?_
        refine cb F (decide (x171 < (u161.length : Int))) (fun hc4 => ?_) (fun hc4 => ?_)
        · replace hB3 := cond_t hc4 hB3
          refine go hS F ?_
          refine awp_inlF hS 3 Tryd.func50 ok50 nt50 of50 rfl (by simp only [go_sem, seval, F] <;> eq_refl) (by simp only [go_sem, seval, F] <;> eq_refl) ?_ rfl (by simp only [go_sem, seval, F] <;> eq_refl) (by simp) fun hb => ?_
          · exact goc hS F
          unfold ac50 rv50
          refine go hS F ?_
          refine awp_unroll 30 ?_
          refine go hS F ?_
          refine ct F ?_
          try simp only [gd_some, Option.bind_eq_some_iff] at hB3
          obtain ⟨hv5, hB3⟩ := hB3
          refine go hS F ?_
          refine cf F ?_
          try simp only [gd_some, Option.bind_eq_some_iff] at hB3
          obtain ⟨hv6, hB3⟩ := hB3
          simp only [I64] at hv6
          refine go hS F ?_
          exact backK_n (n, x171 + 1, l172 ++ [(u158, x171)], c170 + 1 + 1 + 1 + 1 + 1 + 1 + 1 + 1 + 1 + 1 + 1) hB3 (Nat.lt_succ_self _) (leF F)
        · replace hB3 := cond_f hc4 hB3
          refine go hS F ?_
          exact cutK_h (l172, c170 + 1) (Option.some.inj hB3) (leF F)
    · rintro ⟨l177, c176⟩ hz7
      subst hz7
      try simp only at h
      refine go hS F ?_
      refine awp_inlF hS 2 Tryd.func50 ok50 nt50 of50 rfl (by simp only [go_sem, seval, F] <;> eq_refl) (by simp only [go_sem, seval, F] <;> eq_refl) ?_ rfl (by simp only [go_sem, seval, F] <;> eq_refl) (by simp) fun hb => ?_
      · exact goc hS F
      unfold ac50 rv50
      refine go hS F ?_
      refine awp_unroll 30 ?_
      refine go hS F ?_
      refine ct F ?_
      try simp only [gd_some, Option.bind_eq_some_iff] at h
      obtain ⟨hv8, h⟩ := h
      refine go hS F ?_
      refine ct F ?_
      try simp only [gd_some, Option.bind_eq_some_iff] at h
      obtain ⟨hv9, h⟩ := h
      refine go hS F ?_
      refine cf F ?_
      obtain rfl := Option.some.inj h
      refine go hS F ?_
      exact fin F
end

def s28 (N : Nat) : Spec
  | [.agg [.v (.int .i64 u158), .v (.int .i64 u159), .v (.int .i64 u160), .sl yu161 _ u161 _, .v (.int .i64 u162), .v (.int .i64 u163)]] => some (((yu161 = 2 ∨ u161 = []) ∧ u161 = (u161.map d_ii).map e_ii) ∧ (D_unit_Faces N u158 u159 u160 (u161.map d_ii) u162 u163).isSome = true, .sl 2 false (((D_unit_Faces N u158 u159 u160 (u161.map d_ii) u162 u163).getD []).map e_ii) [.i 0, .i 0])
  | _ => none
theorem fok28 (N : Nat) : FOK Tryd.prog 28 (s28 N) := ⟨of28, by
  intro args vc r h hv
  unfold s28 at h
  split at h
  · cases h
    obtain ⟨⟨hy0, hr0⟩, hs⟩ := hv
    obtain ⟨r, hr⟩ := Option.isSome_iff_exists.1 hs
    have hk := D_unit_Faces_ok N _ _ _ _ _ _ r hr
    simp only [hr, Option.getD_some]
    refine PCall.arg ?_ hk
    simp only [wkL, wk, and_true, true_and, Bool.false_eq_true, false_implies, implies_true]
    repeat' (first | exact True.intro | assumption | apply And.intro)
  · simp at h⟩
end Go.Proofs.YtdabfcbelkjmgaaDoor.Am
