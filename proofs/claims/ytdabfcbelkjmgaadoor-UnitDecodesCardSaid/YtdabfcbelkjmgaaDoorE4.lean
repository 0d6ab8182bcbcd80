import Derived.Test.YtdabfcbelkjmgaaDoorP9
import Derived.Test.YtdabfcbelkjmgaaDoorE2
namespace Go.Proofs.YtdabfcbelkjmgaaDoor.Am
open Go
attribute [local irreducible] awp seqK blkK backK endK inlK restK rngK asgK itK
set_option maxRecDepth 100000
set_option maxHeartbeats 8000000
set_option linter.unusedSimpArgs false
set_option linter.unusedVariables false
/-! putlog/putloglaw08.sane -/
def D_putloglaw08_sane (N : Nat) : Option Bool :=
  (D_putloglaw08_examples N).bind fun ((r1, r2, r3, r4, r5, r6), (r7, r8, r9, r10, r11, r12)) =>
  (D_unit_Touch N r1 r2 r3 r4 r5 r6 r7 r8 r9 r10 r11 r12).bind fun ((r14, r15, ((r16, r17), (r18, r19)), r20, r21), r22) =>
  (D_unit_Stands N r1 r2 r3 r4 r5 r6).bind fun ((r24, r25, ((r26, r27), (r28, r29)), r30, r31), r32) =>
  (D_unit_Stands N r7 r8 r9 r10 r11 r12).bind fun ((r34, r35, ((r36, r37), (r38, r39)), r40, r41), r42) =>
  (D_unit_Stuff N 3).bind fun ((r44, r45, r46, r47, r48), r49) =>
  (D_unit_Stuff N 8).bind fun ((r51, r52, r53, r54, r55), r56) =>
  (D_unit_Encode N r1 r2 r3 r4 r5 r6).bind fun (r58, r59) =>
  (D_unit_Decode N r58).bind fun ((r61, r62, r63, r64, r65, r66), r67) =>
  (D_unit_Move N r7 r8 r9 r10 r11 r12 (-4) (-2)).bind fun ((r69, r70, r71, r72, r73, r74), r75) =>
  (D_unit_Touch N r1 r2 r3 r4 r5 r6 r7 r8 r9 r10 2 r12).bind fun ((r77, r78, ((r79, r80), (r81, r82)), r83, r84), r85) =>
  (D_unit_Faces N r1 r2 r3 r4 r5 r6).bind fun r87 =>
  gd ((!((((((decide (r49 ≠ 0)) || (decide (r56 ≠ 80))) || (decide (r59 ≠ 0))) || (decide (r67 ≠ 0))) || (decide (r75 ≠ 0))) || (decide ((r87.length : Int) ≠ 6)))) = true → ((D_putlogref08_Same N r61 r62 r63 r64 r65 r66 r1 r2 r3 r4 r5 r6).isSome = true)) <|
  bif ((((((decide (r49 ≠ 0)) || (decide (r56 ≠ 80))) || (decide (r59 ≠ 0))) || (decide (r67 ≠ 0))) || (decide (r75 ≠ 0))) || (decide ((r87.length : Int) ≠ 6))) || (!((D_putlogref08_Same N r61 r62 r63 r64 r65 r66 r1 r2 r3 r4 r5 r6).getD false)) then (
    some false)
  else (
    (D_unit_Volume2 N r1 r2 r3 r4 r5 r6).bind fun r89 =>
    gd ((decide (r89 = 64)) = true → ((D_unit_Weight6 N r1 r2 r3 r4 r5 r6).isSome = true)) <|
    gd (((decide (r89 = 64)) && (decide ((D_unit_Weight6 N r1 r2 r3 r4 r5 r6).getD 0 = 1728))) = true → ((D_unit_Moment6 N r1 r2 r3 r4 r5 r6).isSome = true)) <|
    gd (((((((r22 && (decide (r14 = 3) && (decide (r15 = 5) && (decide (r16 = 4) && (decide (r17 = 2) && (decide (r18 = 4) && (decide (r19 = 4) && (decide (r20 = 1) && decide (r21 = 2))))))))) && r32) && (decide (r24 = 3) && (decide (r25 = (-1)) && (decide (r26 = 0) && (decide (r27 = 0) && (decide (r28 = 4) && (decide (r29 = 0) && (decide (r30 = 0) && decide (r31 = 2))))))))) && (!r42)) && (!r85)) && ((((decide (r89 = 64)) && (decide ((D_unit_Weight6 N r1 r2 r3 r4 r5 r6).getD 0 = 1728))) && (decide ((D_unit_Moment6 N r1 r2 r3 r4 r5 r6).getD 0 = 3456))) && (decide (r44 = 6) && (decide (r45 = 3) && (decide (r46 = 4) && (decide (r47 = 6) && decide (r48 = 3))))))) = true → (0 ≤ 3 ∧ 3 < (r87.length : Int))) <|
    gd ((((((((r22 && (decide (r14 = 3) && (decide (r15 = 5) && (decide (r16 = 4) && (decide (r17 = 2) && (decide (r18 = 4) && (decide (r19 = 4) && (decide (r20 = 1) && decide (r21 = 2))))))))) && r32) && (decide (r24 = 3) && (decide (r25 = (-1)) && (decide (r26 = 0) && (decide (r27 = 0) && (decide (r28 = 4) && (decide (r29 = 0) && (decide (r30 = 0) && decide (r31 = 2))))))))) && (!r42)) && (!r85)) && ((((decide (r89 = 64)) && (decide ((D_unit_Weight6 N r1 r2 r3 r4 r5 r6).getD 0 = 1728))) && (decide ((D_unit_Moment6 N r1 r2 r3 r4 r5 r6).getD 0 = 3456))) && (decide (r44 = 6) && (decide (r45 = 3) && (decide (r46 = 4) && (decide (r47 = 6) && decide (r48 = 3))))))) && (decide ((r87.getD 3 (0, 0)).1 = 3) && decide ((r87.getD 3 (0, 0)).2 = 3))) = true → (0 ≤ 5 ∧ 5 < (r87.length : Int))) <|
    gd (((((((((r22 && (decide (r14 = 3) && (decide (r15 = 5) && (decide (r16 = 4) && (decide (r17 = 2) && (decide (r18 = 4) && (decide (r19 = 4) && (decide (r20 = 1) && decide (r21 = 2))))))))) && r32) && (decide (r24 = 3) && (decide (r25 = (-1)) && (decide (r26 = 0) && (decide (r27 = 0) && (decide (r28 = 4) && (decide (r29 = 0) && (decide (r30 = 0) && decide (r31 = 2))))))))) && (!r42)) && (!r85)) && ((((decide (r89 = 64)) && (decide ((D_unit_Weight6 N r1 r2 r3 r4 r5 r6).getD 0 = 1728))) && (decide ((D_unit_Moment6 N r1 r2 r3 r4 r5 r6).getD 0 = 3456))) && (decide (r44 = 6) && (decide (r45 = 3) && (decide (r46 = 4) && (decide (r47 = 6) && decide (r48 = 3))))))) && (decide ((r87.getD 3 (0, 0)).1 = 3) && decide ((r87.getD 3 (0, 0)).2 = 3))) && (decide ((r87.getD 5 (0, 0)).1 = 3) && decide ((r87.getD 5 (0, 0)).2 = (-2)))) = true → ((D_unit_Overlap N r1 r2 r3 r4 r5 r6 r69 r70 r71 r72 r73 r74).isSome = true)) <|
    gd ((((((((((r22 && (decide (r14 = 3) && (decide (r15 = 5) && (decide (r16 = 4) && (decide (r17 = 2) && (decide (r18 = 4) && (decide (r19 = 4) && (decide (r20 = 1) && decide (r21 = 2))))))))) && r32) && (decide (r24 = 3) && (decide (r25 = (-1)) && (decide (r26 = 0) && (decide (r27 = 0) && (decide (r28 = 4) && (decide (r29 = 0) && (decide (r30 = 0) && decide (r31 = 2))))))))) && (!r42)) && (!r85)) && ((((decide (r89 = 64)) && (decide ((D_unit_Weight6 N r1 r2 r3 r4 r5 r6).getD 0 = 1728))) && (decide ((D_unit_Moment6 N r1 r2 r3 r4 r5 r6).getD 0 = 3456))) && (decide (r44 = 6) && (decide (r45 = 3) && (decide (r46 = 4) && (decide (r47 = 6) && decide (r48 = 3))))))) && (decide ((r87.getD 3 (0, 0)).1 = 3) && decide ((r87.getD 3 (0, 0)).2 = 3))) && (decide ((r87.getD 5 (0, 0)).1 = 3) && decide ((r87.getD 5 (0, 0)).2 = (-2)))) && ((D_unit_Overlap N r1 r2 r3 r4 r5 r6 r69 r70 r71 r72 r73 r74).getD false)) = true → ((D_unit_Overlap N r1 r2 r3 r4 r5 r6 r7 r8 r9 r10 2 r12).isSome = true)) <|
    gd (((((((((((r22 && (decide (r14 = 3) && (decide (r15 = 5) && (decide (r16 = 4) && (decide (r17 = 2) && (decide (r18 = 4) && (decide (r19 = 4) && (decide (r20 = 1) && decide (r21 = 2))))))))) && r32) && (decide (r24 = 3) && (decide (r25 = (-1)) && (decide (r26 = 0) && (decide (r27 = 0) && (decide (r28 = 4) && (decide (r29 = 0) && (decide (r30 = 0) && decide (r31 = 2))))))))) && (!r42)) && (!r85)) && ((((decide (r89 = 64)) && (decide ((D_unit_Weight6 N r1 r2 r3 r4 r5 r6).getD 0 = 1728))) && (decide ((D_unit_Moment6 N r1 r2 r3 r4 r5 r6).getD 0 = 3456))) && (decide (r44 = 6) && (decide (r45 = 3) && (decide (r46 = 4) && (decide (r47 = 6) && decide (r48 = 3))))))) && (decide ((r87.getD 3 (0, 0)).1 = 3) && decide ((r87.getD 3 (0, 0)).2 = 3))) && (decide ((r87.getD 5 (0, 0)).1 = 3) && decide ((r87.getD 5 (0, 0)).2 = (-2)))) && ((D_unit_Overlap N r1 r2 r3 r4 r5 r6 r69 r70 r71 r72 r73 r74).getD false)) && (!((D_unit_Overlap N r1 r2 r3 r4 r5 r6 r7 r8 r9 r10 2 r12).getD false))) = true → ((D_unit_Valid N r1 r2 r3 r4 r5 r6).isSome = true)) <|
    gd ((((((((((((r22 && (decide (r14 = 3) && (decide (r15 = 5) && (decide (r16 = 4) && (decide (r17 = 2) && (decide (r18 = 4) && (decide (r19 = 4) && (decide (r20 = 1) && decide (r21 = 2))))))))) && r32) && (decide (r24 = 3) && (decide (r25 = (-1)) && (decide (r26 = 0) && (decide (r27 = 0) && (decide (r28 = 4) && (decide (r29 = 0) && (decide (r30 = 0) && decide (r31 = 2))))))))) && (!r42)) && (!r85)) && ((((decide (r89 = 64)) && (decide ((D_unit_Weight6 N r1 r2 r3 r4 r5 r6).getD 0 = 1728))) && (decide ((D_unit_Moment6 N r1 r2 r3 r4 r5 r6).getD 0 = 3456))) && (decide (r44 = 6) && (decide (r45 = 3) && (decide (r46 = 4) && (decide (r47 = 6) && decide (r48 = 3))))))) && (decide ((r87.getD 3 (0, 0)).1 = 3) && decide ((r87.getD 3 (0, 0)).2 = 3))) && (decide ((r87.getD 5 (0, 0)).1 = 3) && decide ((r87.getD 5 (0, 0)).2 = (-2)))) && ((D_unit_Overlap N r1 r2 r3 r4 r5 r6 r69 r70 r71 r72 r73 r74).getD false)) && (!((D_unit_Overlap N r1 r2 r3 r4 r5 r6 r7 r8 r9 r10 2 r12).getD false))) && ((D_unit_Valid N r1 r2 r3 r4 r5 r6).getD false)) = true → ((D_unit_Valid N 0 0 0 [] 0 0).isSome = true)) <|
    some ((((((((((((r22 && (decide (r14 = 3) && (decide (r15 = 5) && (decide (r16 = 4) && (decide (r17 = 2) && (decide (r18 = 4) && (decide (r19 = 4) && (decide (r20 = 1) && decide (r21 = 2))))))))) && r32) && (decide (r24 = 3) && (decide (r25 = (-1)) && (decide (r26 = 0) && (decide (r27 = 0) && (decide (r28 = 4) && (decide (r29 = 0) && (decide (r30 = 0) && decide (r31 = 2))))))))) && (!r42)) && (!r85)) && ((((decide (r89 = 64)) && (decide ((D_unit_Weight6 N r1 r2 r3 r4 r5 r6).getD 0 = 1728))) && (decide ((D_unit_Moment6 N r1 r2 r3 r4 r5 r6).getD 0 = 3456))) && (decide (r44 = 6) && (decide (r45 = 3) && (decide (r46 = 4) && (decide (r47 = 6) && decide (r48 = 3))))))) && (decide ((r87.getD 3 (0, 0)).1 = 3) && decide ((r87.getD 3 (0, 0)).2 = 3))) && (decide ((r87.getD 5 (0, 0)).1 = 3) && decide ((r87.getD 5 (0, 0)).2 = (-2)))) && ((D_unit_Overlap N r1 r2 r3 r4 r5 r6 r69 r70 r71 r72 r73 r74).getD false)) && (!((D_unit_Overlap N r1 r2 r3 r4 r5 r6 r7 r8 r9 r10 2 r12).getD false))) && ((D_unit_Valid N r1 r2 r3 r4 r5 r6).getD false)) && (!((D_unit_Valid N 0 0 0 [] 0 0).getD false))))

def T9 (N : Nat) : List (Nat × Spec) := [(26, s26 N), (16, s16 N), (20, s20 N), (27, s27 N), (21, s21 N), (22, s22 N), (14, s14 N), (28, s28 N), (17, s17 N), (18, s18 N), (11, s11 N), (12, s12 N), (19, s19 N), (23, s23 N)]
theorem T9_ok (N : Nat) : TabOK Tryd.prog (tabOf (T9 N)) := tab_cons (fok26 N) (tab_cons (fok16 N) (tab_cons (fok20 N) (tab_cons (fok27 N) (tab_cons (fok21 N) (tab_cons (fok22 N) (tab_cons (fok14 N) (tab_cons (fok28 N) (tab_cons (fok17 N) (tab_cons (fok18 N) (tab_cons (fok11 N) (tab_cons (fok12 N) (tab_cons (fok19 N) (tab_cons (fok23 N) (tab_nil))))))))))))))

section
attribute [local go_sem] T9 s26 s16 s20 s27 s21 s22 s14 s28 s17 s18 s11 s12 s19 s23 GT_len rowAt_zero rowAt_succ List.set_cons_succ List.isEmpty_map List.map_append List.map_eq_nil_iff ne_eq List.length_replicate takeMap dropMap e_ii de_ii rb_ii d_ii List.length_set Option.isSome_some
theorem D_putloglaw08_sane_ok (N : Nat) (r : Bool) (h : D_putloglaw08_sane N = some r) : PCall Tryd.prog 9 [] (.b r) := by
  refine pcall_fn (T9_ok N) _ Tryd.func9 ok9 nt9 (by simp) fun _ => ?_
  have hS := T9_ok N
  have F := f0
  unfold ac9 rv9
  unfold D_putloglaw08_sane at h
  try simp only [gd_some, Option.bind_eq_some_iff] at h
  obtain ⟨⟨⟨r1, r2, r3, r4, r5, r6⟩, ⟨r7, r8, r9, r10, r11, r12⟩⟩, hr12, h⟩ := h
  replace F := fc hr12 F
  try simp only [gd_some, Option.bind_eq_some_iff] at h
  obtain ⟨⟨⟨r14, r15, ⟨⟨r16, r17⟩, ⟨r18, r19⟩⟩, r20, r21⟩, r22⟩, hr22, h⟩ := h
  replace F := fc hr22 F
  try simp only [gd_some, Option.bind_eq_some_iff] at h
  obtain ⟨⟨⟨r24, r25, ⟨⟨r26, r27⟩, ⟨r28, r29⟩⟩, r30, r31⟩, r32⟩, hr32, h⟩ := h
  replace F := fc hr32 F
  try simp only [gd_some, Option.bind_eq_some_iff] at h
  obtain ⟨⟨⟨r34, r35, ⟨⟨r36, r37⟩, ⟨r38, r39⟩⟩, r40, r41⟩, r42⟩, hr42, h⟩ := h
  replace F := fc hr42 F
  try simp only [gd_some, Option.bind_eq_some_iff] at h
  obtain ⟨⟨⟨r44, r45, r46, r47, r48⟩, r49⟩, hr49, h⟩ := h
  replace F := fc hr49 F
  try simp only [gd_some, Option.bind_eq_some_iff] at h
  obtain ⟨⟨⟨r51, r52, r53, r54, r55⟩, r56⟩, hr56, h⟩ := h
  replace F := fc hr56 F
  try simp only [gd_some, Option.bind_eq_some_iff] at h
  obtain ⟨⟨r58, r59⟩, hr59, h⟩ := h
  replace F := fc hr59 F
  try simp only [gd_some, Option.bind_eq_some_iff] at h
  obtain ⟨⟨⟨r61, r62, r63, r64, r65, r66⟩, r67⟩, hr67, h⟩ := h
  replace F := fc hr67 F
  try simp only [gd_some, Option.bind_eq_some_iff] at h
  obtain ⟨⟨⟨r69, r70, r71, r72, r73, r74⟩, r75⟩, hr75, h⟩ := h
  replace F := fc hr75 F
  try simp only [gd_some, Option.bind_eq_some_iff] at h
  obtain ⟨⟨⟨r77, r78, ⟨⟨r79, r80⟩, ⟨r81, r82⟩⟩, r83, r84⟩, r85⟩, hr85, h⟩ := h
  replace F := fc hr85 F
  try simp only [gd_some, Option.bind_eq_some_iff] at h
  obtain ⟨r87, hr87, hv1, h⟩ := h
  replace F := fc hr87 F
  refine go hS F ?_
  refine cb F (((((((decide (r49 ≠ 0)) || (decide (r56 ≠ 80))) || (decide (r59 ≠ 0))) || (decide (r67 ≠ 0))) || (decide (r75 ≠ 0))) || (decide ((r87.length : Int) ≠ 6))) || (!((D_putlogref08_Same N r61 r62 r63 r64 r65 r66 r1 r2 r3 r4 r5 r6).getD false))) (fun hc2 => ?_) (fun hc2 => ?_)
  · replace h := cond_t hc2 h
    obtain rfl := Option.some.inj h
    refine go hS F ?_
    exact fin F
  · replace h := cond_f hc2 h
    try simp only [gd_some, Option.bind_eq_some_iff] at h
    obtain ⟨r89, hr89, hv3, hv4, hv5, hv6, hv7, hv8, hv9, hv10, h⟩ := h
    replace F := fc hr89 F
    obtain rfl := Option.some.inj h
    refine go hS F ?_
    exact fin F
end

def s9 (N : Nat) : Spec
  | [] => some ((D_putloglaw08_sane N).isSome = true, .b ((D_putloglaw08_sane N).getD false))
  | _ => none
theorem fok9 (N : Nat) : FOK Tryd.prog 9 (s9 N) := ⟨of9, by
  intro args vc r h hv
  unfold s9 at h
  split at h
  · cases h
    have hs := hv
    obtain ⟨r, hr⟩ := Option.isSome_iff_exists.1 hs
    have hk := D_putloglaw08_sane_ok N r hr
    simp only [hr, Option.getD_some]
    refine PCall.arg ?_ hk
    simp only [wkL, wk, and_true, true_and, Bool.false_eq_true, false_implies, implies_true]
    try trivial
  · simp at h⟩
end Go.Proofs.YtdabfcbelkjmgaaDoor.Am
