import Derived.Test.YtojciffnkbfbhaaDR
import Derived.Test.YtojciffnkbfbhaaA12
namespace Go.Proofs.Ytojciffnkbfbhaa.Am
open Go
attribute [local irreducible] awp seqK blkK backK endK inlK restK rngK asgK itK
set_option maxRecDepth 100000
set_option maxHeartbeats 8000000
set_option linter.unusedSimpArgs false
set_option linter.unusedVariables false
def e_iii (x : Int × Int × Int) : List AV := [.i x.1, .i x.2.1, .i x.2.2]
def d_iii : List AV → Int × Int × Int
  | [.v (.int _ a1), .v (.int _ a2), .v (.int _ a3)] => (a1, a2, a3)
  | _ => (0, 0, 0)
theorem d1_iii (x : Int × Int × Int) : d_iii (e_iii x) = x := by rfl
theorem de_iii (R : List (Int × Int × Int)) : (R.map e_iii).map d_iii = R := by
  induction R with
  | nil => rfl
  | cons r R ih => rw [List.map_cons, List.map_cons, ih, d1_iii]

theorem rb_iii (R : List (Int × Int × Int)) (i : Nat) : rowAt (R.map e_iii) [.i 0, .i 0, .i 0] i = e_iii (R.getD i (0, 0, 0)) := by
  unfold rowAt; rw [List.getD_eq_getElem?_getD, List.getD_eq_getElem?_getD, List.getElem?_map]; cases R[i]? <;> rfl

theorem rb2_iii (A B : List (Int × Int × Int)) (i : Nat) : rowAt (A.map e_iii ++ B.map e_iii) [.i 0, .i 0, .i 0] i = e_iii ((A ++ B).getD i (0, 0, 0)) := by
  rw [← List.map_append]; exact rb_iii _ _
/-! putlog/putlogref07.Overlap -/
def D_putlogref07_Overlap_L2 (N : Nat) (a3 : List (Int × Int)) : Nat → Int → (List (Int × Int × Int)) → Option ((List (Int × Int × Int)))
  | 0, _, _ => none
  | n + 1, i23, l24 =>
    bif decide (i23 < (a3.length : Int)) then (
      (nth a3 i23).bind fun (x25, x26) =>
      (D_putlogref07_end N a3 i23).bind fun (r28, r29) =>
      gd (I64 (x26 - r29)) <|
      gd (I64 (r28 - x25)) <|
      gd (I64 (r29 - x26)) <|
      gd (I64 ((r29 - x26) * x25)) <|
      gd (I64 (r28 - x25)) <|
      gd (I64 ((r28 - x25) * x26)) <|
      gd (I64 (((r29 - x26) * x25) - ((r28 - x25) * x26))) <|
      gd ((l24.length + 1) * 24 ≤ 140737488355328) <|
      gd (I64 (i23 + 1)) <|
      D_putlogref07_Overlap_L2 N a3 n (i23 + 1) (l24 ++ [(x26 - r29, r28 - x25, ((r29 - x26) * x25) - ((r28 - x25) * x26))]))
    else (
      some l24)

def D_putlogref07_Overlap_L4 (N : Nat) (b4 : List (Int × Int)) : Nat → Int → (List (Int × Int × Int)) → Option ((List (Int × Int × Int)))
  | 0, _, _ => none
  | n + 1, i53, l54 =>
    bif decide (i53 < (b4.length : Int)) then (
      (nth b4 i53).bind fun (x55, x56) =>
      (D_putlogref07_end N b4 i53).bind fun (r58, r59) =>
      gd (I64 (x56 - r59)) <|
      gd (I64 (r58 - x55)) <|
      gd (I64 (r59 - x56)) <|
      gd (I64 ((r59 - x56) * x55)) <|
      gd (I64 (r58 - x55)) <|
      gd (I64 ((r58 - x55) * x56)) <|
      gd (I64 (((r59 - x56) * x55) - ((r58 - x55) * x56))) <|
      gd ((l54.length + 1) * 24 ≤ 140737488355328) <|
      gd (I64 (i53 + 1)) <|
      D_putlogref07_Overlap_L4 N b4 n (i53 + 1) (l54 ++ [(x56 - r59, r58 - x55, ((r59 - x56) * x55) - ((r58 - x55) * x56))]))
    else (
      some l54)

def D_putlogref07_Overlap_L24 (N : Nat) (l35 : List (Int × Int × Int)) (l65 : List (Int × Int × Int)) (p328 : Int) (p329 : Int) (p330 : Int) : Nat → Bool → Int → Option Bool
  | 0, _, _ => none
  | n + 1, in338, n339 =>
    bif decide (n339 < ((l35 ++ l65).length : Int)) then (
      gd (in338 = true → (0 ≤ n339 ∧ n339 < ((l35 ++ l65).length : Int))) <|
      gd (in338 = true → (0 ≤ n339 ∧ n339 < ((l35 ++ l65).length : Int))) <|
      gd (in338 = true → (I64 ((((l35 ++ l65).getD n339.toNat (0, 0, 0)).1) * p328))) <|
      gd (in338 = true → (0 ≤ n339 ∧ n339 < ((l35 ++ l65).length : Int))) <|
      gd (in338 = true → (0 ≤ n339 ∧ n339 < ((l35 ++ l65).length : Int))) <|
      gd (in338 = true → (I64 ((((l35 ++ l65).getD n339.toNat (0, 0, 0)).2.1) * p329))) <|
      gd (in338 = true → (I64 (((((l35 ++ l65).getD n339.toNat (0, 0, 0)).1) * p328) + ((((l35 ++ l65).getD n339.toNat (0, 0, 0)).2.1) * p329)))) <|
      gd (in338 = true → (0 ≤ n339 ∧ n339 < ((l35 ++ l65).length : Int))) <|
      gd (in338 = true → (0 ≤ n339 ∧ n339 < ((l35 ++ l65).length : Int))) <|
      gd (in338 = true → (I64 ((((l35 ++ l65).getD n339.toNat (0, 0, 0)).2.2) * p330))) <|
      gd (in338 = true → (I64 ((((((l35 ++ l65).getD n339.toNat (0, 0, 0)).1) * p328) + ((((l35 ++ l65).getD n339.toNat (0, 0, 0)).2.1) * p329)) + ((((l35 ++ l65).getD n339.toNat (0, 0, 0)).2.2) * p330)))) <|
      gd (I64 (n339 + 1)) <|
      D_putlogref07_Overlap_L24 N l35 l65 p328 p329 p330 n (in338 && (decide (0 ≤ (((((l35 ++ l65).getD n339.toNat (0, 0, 0)).1) * p328) + ((((l35 ++ l65).getD n339.toNat (0, 0, 0)).2.1) * p329)) + ((((l35 ++ l65).getD n339.toNat (0, 0, 0)).2.2) * p330)))) (n339 + 1))
    else (
      some in338)

def D_putlogref07_Overlap_L20 (N : Nat) (l35 : List (Int × Int × Int)) (l65 : List (Int × Int × Int)) (i258 : Int) : Nat → Int → (List (Int × Int × Int)) → Option ((List (Int × Int × Int)))
  | 0, _, _ => none
  | n + 1, k303, l304 =>
    bif decide (k303 < ((l35 ++ l65).length : Int)) then (
      (nth (l35 ++ l65) i258).bind fun (x305, x306, x307) =>
      (nth (l35 ++ l65) k303).bind fun (x309, x310, x311) =>
      gd (I64 (x306 * x311)) <|
      gd (I64 (x310 * x307)) <|
      gd (I64 ((x306 * x311) - (x310 * x307))) <|
      gd (I64 (x307 * x309)) <|
      gd (I64 (x311 * x305)) <|
      gd (I64 ((x307 * x309) - (x311 * x305))) <|
      gd (I64 (x305 * x310)) <|
      gd (I64 (x309 * x306)) <|
      gd (I64 ((x305 * x310) - (x309 * x306))) <|
      bif decide ((x305 * x310) - (x309 * x306) = 0) then (
        gd (I64 (k303 + 1)) <|
        D_putlogref07_Overlap_L20 N l35 l65 i258 n (k303 + 1) l304)
      else (
        (bif decide ((x305 * x310) - (x309 * x306) < 0) then (
            gd (I64 (-((x306 * x311) - (x310 * x307)))) <|
            gd (I64 (-((x307 * x309) - (x311 * x305)))) <|
            gd (I64 (-((x305 * x310) - (x309 * x306)))) <|
            some (-((x306 * x311) - (x310 * x307)), -((x307 * x309) - (x311 * x305)), -((x305 * x310) - (x309 * x306))))
          else (
            some ((x306 * x311) - (x310 * x307), (x307 * x309) - (x311 * x305), (x305 * x310) - (x309 * x306))) : Option (Int × Int × Int)).bind fun (p328, p329, p330) =>
        (D_putlogref07_Overlap_L24 N l35 l65 p328 p329 p330 N true 0).bind fun in344 =>
        bif in344 then (
          gd ((l304.length + 1) * 24 ≤ 140737488355328) <|
          gd (I64 (k303 + 1)) <|
          D_putlogref07_Overlap_L20 N l35 l65 i258 n (k303 + 1) (l304 ++ [(p328, p329, p330)]))
        else (
          gd (I64 (k303 + 1)) <|
          D_putlogref07_Overlap_L20 N l35 l65 i258 n (k303 + 1) l304)))
    else (
      some l304)

def D_putlogref07_Overlap_L14 (N : Nat) (l35 : List (Int × Int × Int)) (l65 : List (Int × Int × Int)) : Nat → Int → (List (Int × Int × Int)) → Option ((List (Int × Int × Int)))
  | 0, _, _ => none
  | n + 1, i258, l259 =>
    bif decide (i258 < ((l35 ++ l65).length : Int)) then (
      gd (I64 (i258 + 1)) <|
      (D_putlogref07_Overlap_L20 N l35 l65 i258 N (i258 + 1) l259).bind fun l350 =>
      gd (I64 (i258 + 1)) <|
      D_putlogref07_Overlap_L14 N l35 l65 n (i258 + 1) l350)
    else (
      some l259)

def D_putlogref07_Overlap_L29 (N : Nat) (k371 : Int) (l356 : List (Int × Int × Int)) (i364 : Int) : Nat → Int → Option (Sum Unit Bool)
  | 0, _ => none
  | n + 1, n386 =>
    bif decide (n386 < k371) then (
      (nth l356 i364).bind fun (x387, x388, x389) =>
      (nth l356 k371).bind fun (x391, x392, x393) =>
      (nth l356 n386).bind fun (x395, x396, x397) =>
      gd (I64 (x392 * x397)) <|
      gd (I64 (x393 * x396)) <|
      gd (I64 ((x392 * x397) - (x393 * x396))) <|
      gd (I64 (x387 * ((x392 * x397) - (x393 * x396)))) <|
      gd (I64 (x391 * x397)) <|
      gd (I64 (x393 * x395)) <|
      gd (I64 ((x391 * x397) - (x393 * x395))) <|
      gd (I64 (x388 * ((x391 * x397) - (x393 * x395)))) <|
      gd (I64 ((x387 * ((x392 * x397) - (x393 * x396))) - (x388 * ((x391 * x397) - (x393 * x395))))) <|
      gd (I64 (x391 * x396)) <|
      gd (I64 (x392 * x395)) <|
      gd (I64 ((x391 * x396) - (x392 * x395))) <|
      gd (I64 (x389 * ((x391 * x396) - (x392 * x395)))) <|
      gd (I64 (((x387 * ((x392 * x397) - (x393 * x396))) - (x388 * ((x391 * x397) - (x393 * x395)))) + (x389 * ((x391 * x396) - (x392 * x395))))) <|
      bif decide (((x387 * ((x392 * x397) - (x393 * x396))) - (x388 * ((x391 * x397) - (x393 * x395)))) + (x389 * ((x391 * x396) - (x392 * x395))) ≠ 0) then (
        some (.inr true))
      else (
        gd (I64 (n386 + 1)) <|
        D_putlogref07_Overlap_L29 N k371 l356 i364 n (n386 + 1)))
    else (
      some (.inl ()))

def D_putlogref07_Overlap_L27 (N : Nat) (i364 : Int) (l356 : List (Int × Int × Int)) : Nat → Int → Option (Sum Unit Bool)
  | 0, _ => none
  | n + 1, k371 =>
    bif decide (k371 < i364) then (
      (D_putlogref07_Overlap_L29 N k371 l356 i364 N 0).bind fun o403 => match o403 with
        | .inl () => (
          gd (I64 (k371 + 1)) <|
          D_putlogref07_Overlap_L27 N i364 l356 n (k371 + 1))
        | .inr r402 => (
          some (.inr r402)))
    else (
      some (.inl ()))

def D_putlogref07_Overlap_L25 (N : Nat) (l356 : List (Int × Int × Int)) : Nat → Int → Option (Sum Unit Bool)
  | 0, _ => none
  | n + 1, i364 =>
    bif decide (i364 < (l356.length : Int)) then (
      (D_putlogref07_Overlap_L27 N i364 l356 N 0).bind fun o408 => match o408 with
        | .inl () => (
          gd (I64 (i364 + 1)) <|
          D_putlogref07_Overlap_L25 N l356 n (i364 + 1))
        | .inr r407 => (
          some (.inr r407)))
    else (
      some (.inl ()))

def D_putlogref07_Overlap (N : Nat) (a3 : List (Int × Int)) (b4 : List (Int × Int)) : Option Bool :=
  (D_putlogref07_Valid N a3).bind fun r5 =>
  gd ((!(!r5)) = true → ((D_putlogref07_Valid N b4).isSome = true)) <|
  bif (!r5) || (!((D_putlogref07_Valid N b4).getD false)) then (
    some false)
  else (
    (D_putlogref07_Overlap_L2 N a3 N 0 []).bind fun l35 =>
    (D_putlogref07_Overlap_L4 N b4 N 0 []).bind fun l65 =>
    gd ((l35.length + l65.length) * 24 ≤ 140737488355328) <|
    (D_putlogref07_Overlap_L14 N l35 l65 N 0 []).bind fun l356 =>
    (D_putlogref07_Overlap_L25 N l356 N 0).bind fun o413 => match o413 with
      | .inl () => (
        some false)
      | .inr r412 => (
        some r412))

def T44 (N : Nat) : List (Nat × Spec) := [(37, s37 N), (59, s59 N)]
theorem T44_ok (N : Nat) : TabOK Try.prog (tabOf (T44 N)) := tab_cons (fok37 N) (tab_cons (fok59 N) (tab_nil))

section
attribute [local go_sem] T44 s37 s59 e_ii de_ii rb_ii d_ii e_iii de_iii rb_iii rb2_iii d_iii rowAt_zero rowAt_succ List.set_cons_succ List.isEmpty_map List.map_append List.map_eq_nil_iff ne_eq List.length_replicate takeMap dropMap List.length_set Option.isSome_some
theorem D_putlogref07_Overlap_ok (N : Nat) (a3 : List (Int × Int)) (b4 : List (Int × Int)) (r : Bool) (h : D_putlogref07_Overlap N a3 b4 = some r) : PCall Try.prog 44 [.sl 2 false (a3.map e_ii) [.i 0, .i 0], .sl 2 false (b4.map e_ii) [.i 0, .i 0]] (.b r) := by
  refine pcall_fn (T44_ok N) _ Try.func44 ok44 nt44 (by simp) fun _ => ?_
  have hS := T44_ok N
  have F := f0
  unfold ac44 rv44
  unfold D_putlogref07_Overlap at h
  try simp only [gd_some, Option.bind_eq_some_iff] at h
  obtain ⟨r5, hr5, hv1, h⟩ := h
  replace F := fc hr5 F
  refine go hS F ?_
  refine cb F ((!r5) || (!((D_putlogref07_Valid N b4).getD false))) (fun hc2 => ?_) (fun hc2 => ?_)
  · replace h := cond_t hc2 h
    obtain rfl := Option.some.inj h
    refine go hS F ?_
    exact fin F
  · replace h := cond_f hc2 h
    refine go hS F ?_
    refine awp_inlF2 hS 1 3 (by decide) Try.func62 ok62 nt62 of62 Try.func62 ok62 nt62 of62 rfl rfl (by simp only [go_sem, seval, F] <;> eq_refl) (by simp only [go_sem, seval, F] <;> eq_refl) (by simp only [go_sem, seval, F] <;> eq_refl) ?_ rfl (by simp only [go_sem, seval, F] <;> eq_refl) (by simp) fun hb => ?_
    · exact goc hS F
    unfold ac62 rv62
    refine go hS F ?_
    refine awp_claimEk 1000001 3 3 [.i 0, .i 0, .i 0] (by show (3 : Nat) < 52; omega) (by omega) (by simp only [go_sem, seval, F] <;> eq_refl) ?_
    try simp only [gd_some, Option.bind_eq_some_iff] at h
    obtain ⟨o36, hL3, h⟩ := h
    refine go hS F ?_
    refine awp_cut (fun z : (List (Int × Int × Int)) × Nat => ⟨[(3, .own (1000001, 7) z.1.length)], [(.a (1000001, 7), .sl 3 true (z.1.map e_iii) [.i 0, .i 0, .i 0])], z.2⟩) (fun z => (z.1 : (List (Int × Int × Int))) = o36) (.x 0) ?_ ?_
    · refine awp_loop (fun y : Nat × Int × (List (Int × Int × Int)) × Nat => ⟨[(0, .sl 2 false (a3.map e_ii) [.i 0, .i 0]), (3, .own (1000001, 7) y.2.2.1.length), (4, .i y.2.1)], [(.a (1000001, 7), .sl 3 true (y.2.2.1.map e_iii) [.i 0, .i 0, .i 0])], y.2.2.2⟩) (fun y => D_putlogref07_Overlap_L2 N a3 y.1 y.2.1 y.2.2.1 = some o36) (fun y => y.1) (N, 0, [], 7) hL3 ?_ ?_
      · exact leF F
      · rintro ⟨n, i23, l24, c22⟩ hB4
        try simp only at hB4
        obtain _ | n := n
        · exact absurd hB4 (by simp [D_putlogref07_Overlap_L2])
        rw [D_putlogref07_Overlap_L2] at hB4
        refine go hS F ?_
        refine cb F (decide (i23 < (a3.length : Int))) (fun hc5 => ?_) (fun hc5 => ?_)
        · replace hB4 := cond_t hc5 hB4
          try simp only [gd_some, Option.bind_eq_some_iff] at hB4
          obtain ⟨⟨x25, x26⟩, hn26, hB4⟩ := hB4
          have hx26 : a3.getD i23.toNat (0, 0) = (x25, x26) := ixs hn26 _
          have hb26 := (nth_some hn26).1
          replace F := fc hx26 F
          try simp only [gd_some, Option.bind_eq_some_iff] at hB4
          obtain ⟨⟨r28, r29⟩, hr29, hB4⟩ := hB4
          replace F := fc hr29 F
          try simp only [gd_some, Option.bind_eq_some_iff] at hB4
          obtain ⟨hv6, hv7, hv8, hv9, hv10, hv11, hv12, hv13, hv14, hB4⟩ := hB4
          simp only [I64] at hv6
          simp only [I64] at hv7
          simp only [I64] at hv8
          simp only [I64] at hv9
          simp only [I64] at hv10
          simp only [I64] at hv11
          simp only [I64] at hv12
          simp only [I64] at hv14
          refine go hS F ?_
          exact backK_n (n, i23 + 1, l24 ++ [(x26 - r29, r28 - x25, ((r29 - x26) * x25) - ((r28 - x25) * x26))], c22 + 1 + 1 + 1 + 1 + 1) hB4 (Nat.lt_succ_self _) (leF F)
        · replace hB4 := cond_f hc5 hB4
          refine go hS F ?_
          exact cutK_h (l24, c22 + 1) (Option.some.inj hB4) (leF F)
    · rintro ⟨l35, c34⟩ hz15
      subst hz15
      try simp only at h
      refine go hS F ?_
      first | refine inlC_r (by simp only [go_sem, seval, F] <;> eq_refl) (by simp only [go_sem, seval, F] <;> eq_refl) ?_ ?_ rfl (by simp only [go_sem, seval, F] <;> eq_refl) (by simp) fun hb => ?_ | refine inlC_n (by simp only [go_sem, seval, F] <;> eq_refl) (by simp only [go_sem, seval, F] <;> eq_refl) ?_ ?_ rfl (by simp only [go_sem, seval, F] <;> eq_refl) (by simp) fun hb => ?_
      · exact goc hS F
      · exact goc hS F
      try unfold ac62 rv62
      refine go hS F ?_
      refine awp_claimEk 1000002 3 3 [.i 0, .i 0, .i 0] (by show (3 : Nat) < 52; omega) (by omega) (by simp only [go_sem, seval, F] <;> eq_refl) ?_
      try simp only [gd_some, Option.bind_eq_some_iff] at h
      obtain ⟨o66, hL16, h⟩ := h
      refine go hS F ?_
      refine awp_cut (fun z : (List (Int × Int × Int)) × Nat => ⟨[(3, .own (1000002, c34 + 1 + 1 + 1 + 1 + 1 + 1) z.1.length)], [(.a (1000001, 7), .sl 3 true (l35.map e_iii) [.i 0, .i 0, .i 0]), (.a (1000002, c34 + 1 + 1 + 1 + 1 + 1 + 1), .sl 3 true (z.1.map e_iii) [.i 0, .i 0, .i 0])], z.2⟩) (fun z => (z.1 : (List (Int × Int × Int))) = o66) (.x 0) ?_ ?_
      · refine awp_loop (fun y : Nat × Int × (List (Int × Int × Int)) × Nat => ⟨[(0, .sl 2 false (b4.map e_ii) [.i 0, .i 0]), (3, .own (1000002, c34 + 1 + 1 + 1 + 1 + 1 + 1) y.2.2.1.length), (4, .i y.2.1)], [(.a (1000001, 7), .sl 3 true (l35.map e_iii) [.i 0, .i 0, .i 0]), (.a (1000002, c34 + 1 + 1 + 1 + 1 + 1 + 1), .sl 3 true (y.2.2.1.map e_iii) [.i 0, .i 0, .i 0])], y.2.2.2⟩) (fun y => D_putlogref07_Overlap_L4 N b4 y.1 y.2.1 y.2.2.1 = some o66) (fun y => y.1) (N, 0, [], c34 + 1 + 1 + 1 + 1 + 1 + 1) hL16 ?_ ?_
        · exact leF F
        · rintro ⟨n, i53, l54, c52⟩ hB17
          try simp only at hB17
          obtain _ | n := n
          · exact absurd hB17 (by simp [D_putlogref07_Overlap_L4])
          rw [D_putlogref07_Overlap_L4] at hB17
          refine go hS F ?_
          refine cb F (decide (i53 < (b4.length : Int))) (fun hc18 => ?_) (fun hc18 => ?_)
          · replace hB17 := cond_t hc18 hB17
            try simp only [gd_some, Option.bind_eq_some_iff] at hB17
            obtain ⟨⟨x55, x56⟩, hn56, hB17⟩ := hB17
            have hx56 : b4.getD i53.toNat (0, 0) = (x55, x56) := ixs hn56 _
            have hb56 := (nth_some hn56).1
            replace F := fc hx56 F
            try simp only [gd_some, Option.bind_eq_some_iff] at hB17
            obtain ⟨⟨r58, r59⟩, hr59, hB17⟩ := hB17
            replace F := fc hr59 F
            try simp only [gd_some, Option.bind_eq_some_iff] at hB17
            obtain ⟨hv19, hv20, hv21, hv22, hv23, hv24, hv25, hv26, hv27, hB17⟩ := hB17
            simp only [I64] at hv19
            simp only [I64] at hv20
            simp only [I64] at hv21
            simp only [I64] at hv22
            simp only [I64] at hv23
            simp only [I64] at hv24
            simp only [I64] at hv25
            simp only [I64] at hv27
            refine go hS F ?_
            exact backK_n (n, i53 + 1, l54 ++ [(x56 - r59, r58 - x55, ((r59 - x56) * x55) - ((r58 - x55) * x56))], c52 + 1 + 1 + 1 + 1 + 1) hB17 (Nat.lt_succ_self _) (leF F)
          · replace hB17 := cond_f hc18 hB17
            refine go hS F ?_
            exact cutK_h (l54, c52 + 1) (Option.some.inj hB17) (leF F)
      · rintro ⟨l65, c64⟩ hz28
        subst hz28
        try simp only at h
        try simp only [gd_some, Option.bind_eq_some_iff] at h
        obtain ⟨hv29, h⟩ := h
        refine go hS F ?_
        refine awp_claimEk 1000004 6 3 [.i 0, .i 0, .i 0] (by show (6 : Nat) < 245; omega) (by omega) (by simp only [go_sem, seval, F] <;> eq_refl) ?_
        try simp only [gd_some, Option.bind_eq_some_iff] at h
        obtain ⟨o357, hL30, h⟩ := h
        refine go hS F ?_
        refine awp_cut (fun z : (List (Int × Int × Int)) × Nat => ⟨[(6, .own (1000004, c64 + 1 + 1 + 1 + 1 + 1) z.1.length)], [(.a (1000004, c64 + 1 + 1 + 1 + 1 + 1), .sl 3 true (z.1.map e_iii) [.i 0, .i 0, .i 0])], z.2⟩) (fun z => (z.1 : (List (Int × Int × Int))) = o357) (.x 0) ?_ ?_
        · refine awp_loop (fun y : Nat × Int × (List (Int × Int × Int)) × Nat => ⟨[(5, .own (1000001, 7) (l35 ++ l65).length), (6, .own (1000004, c64 + 1 + 1 + 1 + 1 + 1) y.2.2.1.length), (7, .i y.2.1)], [(.a (1000004, c64 + 1 + 1 + 1 + 1 + 1), .sl 3 true (y.2.2.1.map e_iii) [.i 0, .i 0, .i 0]), (.a (1000001, 7), .sl 3 true ((l35 ++ l65).map e_iii) [.i 0, .i 0, .i 0])], y.2.2.2⟩) (fun y => D_putlogref07_Overlap_L14 N l35 l65 y.1 y.2.1 y.2.2.1 = some o357) (fun y => y.1) (N, 0, [], c64 + 1 + 1 + 1 + 1 + 1) hL30 ?_ ?_
          · exact leF F
          · rintro ⟨n, i258, l259, c257⟩ hB31
            try simp only at hB31
            obtain _ | n := n
            · exact absurd hB31 (by simp [D_putlogref07_Overlap_L14])
            rw [D_putlogref07_Overlap_L14] at hB31
            refine go hS F ?_
            refine cb F (decide (i258 < ((l35 ++ l65).length : Int))) (fun hc32 => ?_) (fun hc32 => ?_)
            · replace hB31 := cond_t hc32 hB31
              try simp only [gd_some, Option.bind_eq_some_iff] at hB31
              obtain ⟨hv33, hB31⟩ := hB31
              simp only [I64] at hv33
              try simp only [gd_some, Option.bind_eq_some_iff] at hB31
              obtain ⟨o351, hL34, hB31⟩ := hB31
              refine go hS F ?_
              refine awp_cut (fun z : (List (Int × Int × Int)) × Nat => ⟨[(5, .own (1000001, 7) (l35 ++ l65).length), (6, .own (1000004, c64 + 1 + 1 + 1 + 1 + 1) z.1.length), (7, .i i258)], [(.a (1000004, c64 + 1 + 1 + 1 + 1 + 1), .sl 3 true (z.1.map e_iii) [.i 0, .i 0, .i 0]), (.a (1000001, 7), .sl 3 true ((l35 ++ l65).map e_iii) [.i 0, .i 0, .i 0])], z.2⟩) (fun z => (z.1 : (List (Int × Int × Int))) = o351) (.x 2) ?_ ?_
              · refine awp_loop (fun y : Nat × Int × (List (Int × Int × Int)) × Nat => ⟨[(5, .own (1000001, 7) (l35 ++ l65).length), (6, .own (1000004, c64 + 1 + 1 + 1 + 1 + 1) y.2.2.1.length), (7, .i i258), (8, .i y.2.1)], [(.a (1000004, c64 + 1 + 1 + 1 + 1 + 1), .sl 3 true (y.2.2.1.map e_iii) [.i 0, .i 0, .i 0]), (.a (1000001, 7), .sl 3 true ((l35 ++ l65).map e_iii) [.i 0, .i 0, .i 0])], y.2.2.2⟩) (fun y => D_putlogref07_Overlap_L20 N l35 l65 i258 y.1 y.2.1 y.2.2.1 = some o351) (fun y => y.1) (N, i258 + 1, l259, c257 + 1 + 1) hL34 ?_ ?_
                · exact leF F
                · rintro ⟨n, k303, l304, c302⟩ hB35
                  try simp only at hB35
                  obtain _ | n := n
                  · exact absurd hB35 (by simp [D_putlogref07_Overlap_L20])
                  rw [D_putlogref07_Overlap_L20] at hB35
                  refine go hS F ?_
                  refine cb F (decide (k303 < ((l35 ++ l65).length : Int))) (fun hc36 => ?_) (fun hc36 => ?_)
                  · replace hB35 := cond_t hc36 hB35
                    try simp only [gd_some, Option.bind_eq_some_iff] at hB35
                    obtain ⟨⟨x305, x306, x307⟩, hn307, hB35⟩ := hB35
                    have hx307 : (l35 ++ l65).getD i258.toNat (0, 0, 0) = (x305, x306, x307) := ixs hn307 _
                    have hb307 := (nth_some hn307).1
                    replace F := fc hx307 F
                    try simp only [gd_some, Option.bind_eq_some_iff] at hB35
                    obtain ⟨⟨x309, x310, x311⟩, hn311, hB35⟩ := hB35
                    have hx311 : (l35 ++ l65).getD k303.toNat (0, 0, 0) = (x309, x310, x311) := ixs hn311 _
                    have hb311 := (nth_some hn311).1
                    replace F := fc hx311 F
                    try simp only [gd_some, Option.bind_eq_some_iff] at hB35
                    obtain ⟨hv37, hv38, hv39, hv40, hv41, hv42, hv43, hv44, hv45, hB35⟩ := hB35
                    simp only [I64] at hv37
                    simp only [I64] at hv38
                    simp only [I64] at hv39
                    simp only [I64] at hv40
                    simp only [I64] at hv41
                    simp only [I64] at hv42
                    simp only [I64] at hv43
                    simp only [I64] at hv44
                    simp only [I64] at hv45
                    refine go hS F ?_
                    refine cb F (decide ((x305 * x310) - (x309 * x306) = 0)) (fun hc46 => ?_) (fun hc46 => ?_)
                    · replace hB35 := cond_t hc46 hB35
                      try simp only [gd_some, Option.bind_eq_some_iff] at hB35
                      obtain ⟨hv47, hB35⟩ := hB35
                      simp only [I64] at hv47
                      refine go hS F ?_
                      exact backK_n (n, k303 + 1, l304, c302 + 1 + 1 + 1 + 1) hB35 (Nat.lt_succ_self _) (leF F)
                    · replace hB35 := cond_f hc46 hB35
                      try simp only [gd_some, Option.bind_eq_some_iff] at hB35
                      obtain ⟨o331, hL48, hB35⟩ := hB35
                      refine go hS F ?_
                      refine awp_cut (fun z : Int × Int × Int × Nat => ⟨[(5, .own (1000001, 7) (l35 ++ l65).length), (6, .own (1000004, c64 + 1 + 1 + 1 + 1 + 1) l304.length), (7, .i i258), (8, .i k303), (9, .box (1170, c302 + 1 + 1) 0)], [(.c (1170, c302 + 1 + 1) 0, .i z.1), (.c (1170, c302 + 1 + 1) 1, .i z.2.1), (.c (1170, c302 + 1 + 1) 2, .i z.2.2.1), (.a (1000004, c64 + 1 + 1 + 1 + 1 + 1), .sl 3 true (l304.map e_iii) [.i 0, .i 0, .i 0]), (.a (1000001, 7), .sl 3 true ((l35 ++ l65).map e_iii) [.i 0, .i 0, .i 0])], z.2.2.2⟩) (fun z => ((z.1, z.2.1, z.2.2.1) : Int × Int × Int) = o331) .n ?_ ?_
                      · refine go hS F ?_
                        refine cb F (decide ((x305 * x310) - (x309 * x306) < 0)) (fun hc49 => ?_) (fun hc49 => ?_)
                        · replace hL48 := cond_t hc49 hL48
                          try simp only [gd_some, Option.bind_eq_some_iff] at hL48
                          obtain ⟨hv50, hv51, hv52, hL48⟩ := hL48
                          simp only [I64] at hv50
                          simp only [I64] at hv51
                          simp only [I64] at hv52
                          refine go hS F ?_
                          exact cutK_h (-((x306 * x311) - (x310 * x307)), -((x307 * x309) - (x311 * x305)), -((x305 * x310) - (x309 * x306)), c302 + 1 + 1 + 1 + 1 + 1) (Option.some.inj hL48) (leF F)
                        · replace hL48 := cond_f hc49 hL48
                          refine go hS F ?_
                          exact cutK_h ((x306 * x311) - (x310 * x307), (x307 * x309) - (x311 * x305), (x305 * x310) - (x309 * x306), c302 + 1 + 1 + 1 + 1) (Option.some.inj hL48) (leF F)
                      · rintro ⟨p328, p329, p330, c327⟩ hz53
                        subst hz53
                        try simp only at hB35
                        try simp only [gd_some, Option.bind_eq_some_iff] at hB35
                        obtain ⟨o345, hL54, hB35⟩ := hB35
                        refine go hS F ?_
                        refine awp_cut (fun z : Bool × Nat => ⟨[(5, .own (1000001, 7) (l35 ++ l65).length), (6, .own (1000004, c64 + 1 + 1 + 1 + 1 + 1) l304.length), (7, .i i258), (8, .i k303), (9, .box (1170, c302 + 1 + 1) 0), (10, .b z.1)], [(.c (1170, c302 + 1 + 1) 0, .i p328), (.c (1170, c302 + 1 + 1) 1, .i p329), (.c (1170, c302 + 1 + 1) 2, .i p330), (.a (1000004, c64 + 1 + 1 + 1 + 1 + 1), .sl 3 true (l304.map e_iii) [.i 0, .i 0, .i 0]), (.a (1000001, 7), .sl 3 true ((l35 ++ l65).map e_iii) [.i 0, .i 0, .i 0])], z.2⟩) (fun z => (z.1 : Bool) = o345) (.x 4) ?_ ?_
                        · refine awp_loop (fun y : Nat × Bool × Int × Nat => ⟨[(5, .own (1000001, 7) (l35 ++ l65).length), (6, .own (1000004, c64 + 1 + 1 + 1 + 1 + 1) l304.length), (7, .i i258), (8, .i k303), (9, .box (1170, c302 + 1 + 1) 0), (10, .b y.2.1), (11, .i y.2.2.1)], [(.c (1170, c302 + 1 + 1) 0, .i p328), (.c (1170, c302 + 1 + 1) 1, .i p329), (.c (1170, c302 + 1 + 1) 2, .i p330), (.a (1000004, c64 + 1 + 1 + 1 + 1 + 1), .sl 3 true (l304.map e_iii) [.i 0, .i 0, .i 0]), (.a (1000001, 7), .sl 3 true ((l35 ++ l65).map e_iii) [.i 0, .i 0, .i 0])], y.2.2.2⟩) (fun y => D_putlogref07_Overlap_L24 N l35 l65 p328 p329 p330 y.1 y.2.1 y.2.2.1 = some o345) (fun y => y.1) (N, true, 0, c327 + 1 + 1) hL54 ?_ ?_
                          · exact leF F
                          · rintro ⟨n, in338, n339, c337⟩ hB55
                            try simp only at hB55
                            obtain _ | n := n
                            · exact absurd hB55 (by simp [D_putlogref07_Overlap_L24])
                            rw [D_putlogref07_Overlap_L24] at hB55
                            refine go hS F ?_
                            refine cb F (decide (n339 < ((l35 ++ l65).length : Int))) (fun hc56 => ?_) (fun hc56 => ?_)
                            · replace hB55 := cond_t hc56 hB55
                              try simp only [gd_some, Option.bind_eq_some_iff] at hB55
                              obtain ⟨hv57, hv58, hv59, hv60, hv61, hv62, hv63, hv64, hv65, hv66, hv67, hv68, hB55⟩ := hB55
                              simp only [I64] at hv59
                              simp only [I64] at hv62
                              simp only [I64] at hv63
                              simp only [I64] at hv66
                              simp only [I64] at hv67
                              simp only [I64] at hv68
                              refine go hS F ?_
                              exact backK_n (n, in338 && (decide (0 ≤ (((((l35 ++ l65).getD n339.toNat (0, 0, 0)).1) * p328) + ((((l35 ++ l65).getD n339.toNat (0, 0, 0)).2.1) * p329)) + ((((l35 ++ l65).getD n339.toNat (0, 0, 0)).2.2) * p330))), n339 + 1, c337 + 1 + 1 + 1) hB55 (Nat.lt_succ_self _) (leF F)
                            · replace hB55 := cond_f hc56 hB55
                              refine go hS F ?_
                              exact cutK_h (in338, c337 + 1) (Option.some.inj hB55) (leF F)
                        · rintro ⟨in344, c343⟩ hz69
                          subst hz69
                          try simp only at hB35
                          refine go hS F ?_
                          refine cb F (in344) (fun hc70 => ?_) (fun hc70 => ?_)
                          · replace hB35 := cond_t hc70 hB35
                            try simp only [gd_some, Option.bind_eq_some_iff] at hB35
                            obtain ⟨hv71, hv72, hB35⟩ := hB35
                            simp only [I64] at hv72
                            refine go hS F ?_
                            exact backK_n (n, k303 + 1, l304 ++ [(p328, p329, p330)], c343 + 1 + 1 + 1) hB35 (Nat.lt_succ_self _) (leF F)
                          · replace hB35 := cond_f hc70 hB35
                            try simp only [gd_some, Option.bind_eq_some_iff] at hB35
                            obtain ⟨hv73, hB35⟩ := hB35
                            simp only [I64] at hv73
                            refine go hS F ?_
                            exact backK_n (n, k303 + 1, l304, c343 + 1 + 1) hB35 (Nat.lt_succ_self _) (leF F)
                  · replace hB35 := cond_f hc36 hB35
                    refine go hS F ?_
                    exact cutK_h (l304, c302 + 1) (Option.some.inj hB35) (leF F)
              · rintro ⟨l350, c349⟩ hz74
                subst hz74
                try simp only at hB31
                try simp only [gd_some, Option.bind_eq_some_iff] at hB31
                obtain ⟨hv75, hB31⟩ := hB31
                simp only [I64] at hv75
                refine go hS F ?_
                exact backK_n (n, i258 + 1, l350, c349 + 1) hB31 (Nat.lt_succ_self _) (leF F)
            · replace hB31 := cond_f hc32 hB31
              refine go hS F ?_
              exact cutK_h (l259, c257 + 1) (Option.some.inj hB31) (leF F)
        · rintro ⟨l356, c355⟩ hz76
          subst hz76
          try simp only at h
          try simp only [gd_some, Option.bind_eq_some_iff] at h
          obtain ⟨o413, hL77, h⟩ := h
          refine go hS F ?_
          refine awp_cut (fun z : Nat => ⟨[], [], z⟩) (fun z => (.inl () : Sum Unit Bool) = o413) (.x 6) ?_ ?_
          · refine awp_loop (fun y : Nat × Int × Nat => ⟨[(6, .own (1000004, c64 + 1 + 1 + 1 + 1 + 1) l356.length), (12, .i y.2.1)], [(.a (1000004, c64 + 1 + 1 + 1 + 1 + 1), .sl 3 true (l356.map e_iii) [.i 0, .i 0, .i 0])], y.2.2⟩) (fun y => D_putlogref07_Overlap_L25 N l356 y.1 y.2.1 = some o413) (fun y => y.1) (N, 0, c355 + 1) hL77 ?_ ?_
            · exact leF F
            · rintro ⟨n, i364, c363⟩ hB78
              try simp only at hB78
              obtain _ | n := n
              · exact absurd hB78 (by simp [D_putlogref07_Overlap_L25])
              rw [D_putlogref07_Overlap_L25] at hB78
              refine go hS F ?_
              refine cb F (decide (i364 < (l356.length : Int))) (fun hc79 => ?_) (fun hc79 => ?_)
              · replace hB78 := cond_t hc79 hB78
                try simp only [gd_some, Option.bind_eq_some_iff] at hB78
                obtain ⟨o408, hL80, hB78⟩ := hB78
                refine go hS F ?_
                refine awp_cut (fun z : Nat => ⟨[(6, .own (1000004, c64 + 1 + 1 + 1 + 1 + 1) l356.length), (12, .i i364)], [(.a (1000004, c64 + 1 + 1 + 1 + 1 + 1), .sl 3 true (l356.map e_iii) [.i 0, .i 0, .i 0])], z⟩) (fun z => (.inl () : Sum Unit Bool) = o408) (.x 8) ?_ ?_
                · refine awp_loop (fun y : Nat × Int × Nat => ⟨[(6, .own (1000004, c64 + 1 + 1 + 1 + 1 + 1) l356.length), (12, .i i364), (13, .i y.2.1)], [(.a (1000004, c64 + 1 + 1 + 1 + 1 + 1), .sl 3 true (l356.map e_iii) [.i 0, .i 0, .i 0])], y.2.2⟩) (fun y => D_putlogref07_Overlap_L27 N i364 l356 y.1 y.2.1 = some o408) (fun y => y.1) (N, 0, c363 + 1 + 1) hL80 ?_ ?_
                  · exact leF F
                  · rintro ⟨n, k371, c370⟩ hB81
                    try simp only at hB81
                    obtain _ | n := n
                    · exact absurd hB81 (by simp [D_putlogref07_Overlap_L27])
                    rw [D_putlogref07_Overlap_L27] at hB81
                    refine go hS F ?_
                    refine cb F (decide (k371 < i364)) (fun hc82 => ?_) (fun hc82 => ?_)
                    · replace hB81 := cond_t hc82 hB81
                      try simp only [gd_some, Option.bind_eq_some_iff] at hB81
                      obtain ⟨o403, hL83, hB81⟩ := hB81
                      refine go hS F ?_
                      refine awp_cut (fun z : Nat => ⟨[(6, .own (1000004, c64 + 1 + 1 + 1 + 1 + 1) l356.length), (12, .i i364), (13, .i k371)], [(.a (1000004, c64 + 1 + 1 + 1 + 1 + 1), .sl 3 true (l356.map e_iii) [.i 0, .i 0, .i 0])], z⟩) (fun z => (.inl () : Sum Unit Bool) = o403) (.x 10) ?_ ?_
                      · refine awp_loop (fun y : Nat × Int × Nat => ⟨[(6, .own (1000004, c64 + 1 + 1 + 1 + 1 + 1) l356.length), (12, .i i364), (13, .i k371), (14, .i y.2.1)], [(.a (1000004, c64 + 1 + 1 + 1 + 1 + 1), .sl 3 true (l356.map e_iii) [.i 0, .i 0, .i 0])], y.2.2⟩) (fun y => D_putlogref07_Overlap_L29 N k371 l356 i364 y.1 y.2.1 = some o403) (fun y => y.1) (N, 0, c370 + 1 + 1) hL83 ?_ ?_
                        · exact leF F
                        · rintro ⟨n, n386, c385⟩ hB84
                          try simp only at hB84
                          obtain _ | n := n
                          · exact absurd hB84 (by simp [D_putlogref07_Overlap_L29])
                          rw [D_putlogref07_Overlap_L29] at hB84
                          refine go hS F ?_
                          refine cb F (decide (n386 < k371)) (fun hc85 => ?_) (fun hc85 => ?_)
                          · replace hB84 := cond_t hc85 hB84
                            try simp only [gd_some, Option.bind_eq_some_iff] at hB84
                            obtain ⟨⟨x387, x388, x389⟩, hn389, hB84⟩ := hB84
                            have hx389 : l356.getD i364.toNat (0, 0, 0) = (x387, x388, x389) := ixs hn389 _
                            have hb389 := (nth_some hn389).1
                            replace F := fc hx389 F
                            try simp only [gd_some, Option.bind_eq_some_iff] at hB84
                            obtain ⟨⟨x391, x392, x393⟩, hn393, hB84⟩ := hB84
                            have hx393 : l356.getD k371.toNat (0, 0, 0) = (x391, x392, x393) := ixs hn393 _
                            have hb393 := (nth_some hn393).1
                            replace F := fc hx393 F
                            try simp only [gd_some, Option.bind_eq_some_iff] at hB84
                            obtain ⟨⟨x395, x396, x397⟩, hn397, hB84⟩ := hB84
                            have hx397 : l356.getD n386.toNat (0, 0, 0) = (x395, x396, x397) := ixs hn397 _
                            have hb397 := (nth_some hn397).1
                            replace F := fc hx397 F
                            try simp only [gd_some, Option.bind_eq_some_iff] at hB84
                            obtain ⟨hv86, hv87, hv88, hv89, hv90, hv91, hv92, hv93, hv94, hv95, hv96, hv97, hv98, hv99, hB84⟩ := hB84
                            simp only [I64] at hv86
                            simp only [I64] at hv87
                            simp only [I64] at hv88
                            simp only [I64] at hv89
                            simp only [I64] at hv90
                            simp only [I64] at hv91
                            simp only [I64] at hv92
                            simp only [I64] at hv93
                            simp only [I64] at hv94
                            simp only [I64] at hv95
                            simp only [I64] at hv96
                            simp only [I64] at hv97
                            simp only [I64] at hv98
                            simp only [I64] at hv99
                            refine go hS F ?_
                            refine cb F (decide (((x387 * ((x392 * x397) - (x393 * x396))) - (x388 * ((x391 * x397) - (x393 * x395)))) + (x389 * ((x391 * x396) - (x392 * x395))) ≠ 0)) (fun hc100 => ?_) (fun hc100 => ?_)
                            · replace hB84 := cond_t hc100 hB84
                              obtain rfl := Option.some.inj hB84
                              try simp only at hB81
                              obtain rfl := Option.some.inj hB81
                              try simp only at hB78
                              obtain rfl := Option.some.inj hB78
                              try simp only at h
                              obtain rfl := Option.some.inj h
                              refine go hS F ?_
                              exact fin F
                            · replace hB84 := cond_f hc100 hB84
                              try simp only [gd_some, Option.bind_eq_some_iff] at hB84
                              obtain ⟨hv101, hB84⟩ := hB84
                              simp only [I64] at hv101
                              refine go hS F ?_
                              exact backK_n (n, n386 + 1, c385 + 1 + 1 + 1 + 1 + 1 + 1) hB84 (Nat.lt_succ_self _) (leF F)
                          · replace hB84 := cond_f hc85 hB84
                            refine go hS F ?_
                            exact cutK_h (c385 + 1) (Option.some.inj hB84) (leF F)
                      · rintro c401 hz102
                        subst hz102
                        try simp only at hB81
                        try simp only [gd_some, Option.bind_eq_some_iff] at hB81
                        obtain ⟨hv103, hB81⟩ := hB81
                        simp only [I64] at hv103
                        refine go hS F ?_
                        exact backK_n (n, k371 + 1, c401 + 1) hB81 (Nat.lt_succ_self _) (leF F)
                    · replace hB81 := cond_f hc82 hB81
                      refine go hS F ?_
                      exact cutK_h (c370 + 1) (Option.some.inj hB81) (leF F)
                · rintro c406 hz104
                  subst hz104
                  try simp only at hB78
                  try simp only [gd_some, Option.bind_eq_some_iff] at hB78
                  obtain ⟨hv105, hB78⟩ := hB78
                  simp only [I64] at hv105
                  refine go hS F ?_
                  exact backK_n (n, i364 + 1, c406 + 1) hB78 (Nat.lt_succ_self _) (leF F)
              · replace hB78 := cond_f hc79 hB78
                refine go hS F ?_
                exact cutK_h (c363 + 1) (Option.some.inj hB78) (leF F)
          · rintro c411 hz106
            subst hz106
            try simp only at h
            obtain rfl := Option.some.inj h
            refine go hS F ?_
            exact fin F
end

def s44 (N : Nat) : Spec
  | [.sl ya3 _ a3 _, .sl yb4 _ b4 _] => some (((ya3 = 2 ∨ a3 = []) ∧ a3 = (a3.map d_ii).map e_ii) ∧ ((yb4 = 2 ∨ b4 = []) ∧ b4 = (b4.map d_ii).map e_ii) ∧ (D_putlogref07_Overlap N (a3.map d_ii) (b4.map d_ii)).isSome = true, .b ((D_putlogref07_Overlap N (a3.map d_ii) (b4.map d_ii)).getD false))
  | _ => none
theorem fok44 (N : Nat) : FOK Try.prog 44 (s44 N) := ⟨of44, by
  intro args vc r h hv
  unfold s44 at h
  split at h
  · cases h
    obtain ⟨⟨hy0, hr0⟩, ⟨hy1, hr1⟩, hs⟩ := hv
    obtain ⟨r, hr⟩ := Option.isSome_iff_exists.1 hs
    have hk := D_putlogref07_Overlap_ok N _ _ r hr
    simp only [hr, Option.getD_some]
    refine PCall.arg ?_ hk
    simp only [wkL, wk, and_true, true_and, Bool.false_eq_true, false_implies, implies_true]
    repeat' (first | exact True.intro | assumption | apply And.intro)
  · simp at h⟩

/-! putlog/putlogref07.Seam -/
def D_putlogref07_Seam_L6 (N : Nat) (a414 : List (Int × Int)) (x454 : Int) (b415 : List (Int × Int)) : Nat → Int → (List (Int × Int)) → Option ((List (Int × Int)))
  | 0, _, _ => none
  | n + 1, y460, l461 =>
    bif decide (y460 ≤ 40) then (
      (D_putlogref07_where N a414 x454 y460).bind fun r462 =>
      gd ((decide (r462 = 0)) = true → ((D_putlogref07_where N b415 x454 y460).isSome = true)) <|
      bif (decide (r462 = 0)) && (decide ((D_putlogref07_where N b415 x454 y460).getD 0 = 0)) then (
        gd ((l461.length + 1) * 16 ≤ 140737488355328) <|
        gd (I64 (y460 + 1)) <|
        D_putlogref07_Seam_L6 N a414 x454 b415 n (y460 + 1) (l461 ++ [(x454, y460)]))
      else (
        gd (I64 (y460 + 1)) <|
        D_putlogref07_Seam_L6 N a414 x454 b415 n (y460 + 1) l461))
    else (
      some l461)

def D_putlogref07_Seam_L4 (N : Nat) (a414 : List (Int × Int)) (b415 : List (Int × Int)) : Nat → Int → (List (Int × Int)) → Option ((List (Int × Int)))
  | 0, _, _ => none
  | n + 1, x454, l455 =>
    bif decide (x454 ≤ 40) then (
      (D_putlogref07_Seam_L6 N a414 x454 b415 N 0 l455).bind fun l468 =>
      gd (I64 (x454 + 1)) <|
      D_putlogref07_Seam_L4 N a414 b415 n (x454 + 1) l468)
    else (
      some l455)

def D_putlogref07_Seam_L7 (N : Nat) (a414 : List (Int × Int)) (x476 : Int) (x477 : Int) (x479 : Int) (x480 : Int) : Nat → Int → Option (Sum Unit ((((Int × Int) × (Int × Int)) × Bool)))
  | 0, _ => none
  | n + 1, i489 =>
    bif decide (i489 < (a414.length : Int)) then (
      (nth a414 i489).bind fun (x490, x491) =>
      (D_putlogref07_Turn N x476 x477 x479 x480 x490 x491).bind fun r493 =>
      bif decide (r493 < 0) then (
        some (.inr (((x479, x480), (x476, x477)), true)))
      else (
        gd (I64 (i489 + 1)) <|
        D_putlogref07_Seam_L7 N a414 x476 x477 x479 x480 n (i489 + 1)))
    else (
      some (.inl ()))

def D_putlogref07_Seam (N : Nat) (a414 : List (Int × Int)) (b415 : List (Int × Int)) : Option (((Int × Int) × (Int × Int)) × Bool) :=
  (D_putlogref07_Valid N a414).bind fun r416 =>
  gd ((!(!r416)) = true → ((D_putlogref07_Valid N b415).isSome = true)) <|
  gd ((!((!r416) || (!((D_putlogref07_Valid N b415).getD false)))) = true → ((D_putlogref07_Overlap N a414 b415).isSome = true)) <|
  bif ((!r416) || (!((D_putlogref07_Valid N b415).getD false))) || ((D_putlogref07_Overlap N a414 b415).getD false) then (
    some (((0, 0), (0, 0)), false))
  else (
    (D_putlogref07_Seam_L4 N a414 b415 N 0 []).bind fun l474 =>
    bif decide ((l474.length : Int) < 2) then (
      some (((0, 0), (0, 0)), false))
    else (
      (nth l474 0).bind fun (x476, x477) =>
      gd (I64 ((l474.length : Int) - 1)) <|
      (nth l474 ((l474.length : Int) - 1)).bind fun (x479, x480) =>
      (D_putlogref07_Seam_L7 N a414 x476 x477 x479 x480 N 0).bind fun o499 => match o499 with
        | .inl () => (
          some (((x476, x477), (x479, x480)), true))
        | .inr r498 => (
          some r498)))

def T42 (N : Nat) : List (Nat × Spec) := [(37, s37 N), (44, s44 N), (60, s60 N), (28, s28 N)]
theorem T42_ok (N : Nat) : TabOK Try.prog (tabOf (T42 N)) := tab_cons (fok37 N) (tab_cons (fok44 N) (tab_cons (fok60 N) (tab_cons (fok28 N) (tab_nil))))

section
attribute [local go_sem] T42 s37 s44 s60 s28 e_ii de_ii rb_ii d_ii rowAt_zero rowAt_succ List.set_cons_succ List.isEmpty_map List.map_append List.map_eq_nil_iff ne_eq List.length_replicate takeMap dropMap List.length_set Option.isSome_some
theorem D_putlogref07_Seam_ok (N : Nat) (a414 : List (Int × Int)) (b415 : List (Int × Int)) (r : ((Int × Int) × (Int × Int)) × Bool) (h : D_putlogref07_Seam N a414 b415 = some r) : PCall Try.prog 42 [.sl 2 false (a414.map e_ii) [.i 0, .i 0], .sl 2 false (b415.map e_ii) [.i 0, .i 0]] (.tup [.agg [.i r.1.1.1, .i r.1.1.2, .i r.1.2.1, .i r.1.2.2], .b r.2]) := by
  refine pcall_fn (T42_ok N) _ Try.func42 ok42 nt42 (by simp) fun _ => ?_
  have hS := T42_ok N
  have F := f0
  unfold ac42 rv42
  unfold D_putlogref07_Seam at h
  try simp only [gd_some, Option.bind_eq_some_iff] at h
  obtain ⟨r416, hr416, hv1, hv2, h⟩ := h
  replace F := fc hr416 F
  refine go hS F ?_
  refine cb F (((!r416) || (!((D_putlogref07_Valid N b415).getD false))) || ((D_putlogref07_Overlap N a414 b415).getD false)) (fun hc3 => ?_) (fun hc3 => ?_)
  · replace h := cond_t hc3 h
    obtain rfl := Option.some.inj h
    refine go hS F ?_
    exact fin F
  · replace h := cond_f hc3 h
    refine go hS F ?_
    refine awp_claimEk 1000002 6 2 [.i 0, .i 0] (by show (6 : Nat) < 85; omega) (by omega) (by simp only [go_sem, seval, F] <;> eq_refl) ?_
    try simp only [gd_some, Option.bind_eq_some_iff] at h
    obtain ⟨o475, hL4, h⟩ := h
    refine go hS F ?_
    refine awp_cut (fun z : (List (Int × Int)) × Nat => ⟨[(0, .sl 2 false (a414.map e_ii) [.i 0, .i 0]), (4, .box (0, 1) 0), (6, .own (1000002, 5) z.1.length)], [(.a (1000002, 5), .sl 2 true (z.1.map e_ii) [.i 0, .i 0]), (.c (0, 1) 0, .i 0), (.c (0, 1) 1, .i 0), (.c (0, 1) 2, .i 0), (.c (0, 1) 3, .i 0)], z.2⟩) (fun z => (z.1 : (List (Int × Int))) = o475) (.x 0) ?_ ?_
    · refine awp_loop (fun y : Nat × Int × (List (Int × Int)) × Nat => ⟨[(0, .sl 2 false (a414.map e_ii) [.i 0, .i 0]), (1, .sl 2 false (b415.map e_ii) [.i 0, .i 0]), (4, .box (0, 1) 0), (6, .own (1000002, 5) y.2.2.1.length), (7, .i y.2.1)], [(.a (1000002, 5), .sl 2 true (y.2.2.1.map e_ii) [.i 0, .i 0]), (.c (0, 1) 0, .i 0), (.c (0, 1) 1, .i 0), (.c (0, 1) 2, .i 0), (.c (0, 1) 3, .i 0)], y.2.2.2⟩) (fun y => D_putlogref07_Seam_L4 N a414 b415 y.1 y.2.1 y.2.2.1 = some o475) (fun y => y.1) (N, 0, [], 5) hL4 ?_ ?_
      · exact leF F
      · rintro ⟨n, x454, l455, c453⟩ hB5
        try simp only at hB5
        obtain _ | n := n
        · exact absurd hB5 (by simp [D_putlogref07_Seam_L4])
        rw [D_putlogref07_Seam_L4] at hB5
        refine go hS F ?_
        refine cb F (decide (x454 ≤ 40)) (fun hc6 => ?_) (fun hc6 => ?_)
        · replace hB5 := cond_t hc6 hB5
          try simp only [gd_some, Option.bind_eq_some_iff] at hB5
          obtain ⟨o469, hL7, hB5⟩ := hB5
          refine go hS F ?_
          refine awp_cut (fun z : (List (Int × Int)) × Nat => ⟨[(0, .sl 2 false (a414.map e_ii) [.i 0, .i 0]), (1, .sl 2 false (b415.map e_ii) [.i 0, .i 0]), (4, .box (0, 1) 0), (6, .own (1000002, 5) z.1.length), (7, .i x454)], [(.a (1000002, 5), .sl 2 true (z.1.map e_ii) [.i 0, .i 0]), (.c (0, 1) 0, .i 0), (.c (0, 1) 1, .i 0), (.c (0, 1) 2, .i 0), (.c (0, 1) 3, .i 0)], z.2⟩) (fun z => (z.1 : (List (Int × Int))) = o469) (.x 2) ?_ ?_
          · refine awp_loop (fun y : Nat × Int × (List (Int × Int)) × Nat => ⟨[(0, .sl 2 false (a414.map e_ii) [.i 0, .i 0]), (1, .sl 2 false (b415.map e_ii) [.i 0, .i 0]), (4, .box (0, 1) 0), (6, .own (1000002, 5) y.2.2.1.length), (7, .i x454), (8, .i y.2.1)], [(.a (1000002, 5), .sl 2 true (y.2.2.1.map e_ii) [.i 0, .i 0]), (.c (0, 1) 0, .i 0), (.c (0, 1) 1, .i 0), (.c (0, 1) 2, .i 0), (.c (0, 1) 3, .i 0)], y.2.2.2⟩) (fun y => D_putlogref07_Seam_L6 N a414 x454 b415 y.1 y.2.1 y.2.2.1 = some o469) (fun y => y.1) (N, 0, l455, c453 + 1 + 1) hL7 ?_ ?_
            · exact leF F
            · rintro ⟨n, y460, l461, c459⟩ hB8
              try simp only at hB8
              obtain _ | n := n
              · exact absurd hB8 (by simp [D_putlogref07_Seam_L6])
              rw [D_putlogref07_Seam_L6] at hB8
              refine go hS F ?_
              refine cb F (decide (y460 ≤ 40)) (fun hc9 => ?_) (fun hc9 => ?_)
              · replace hB8 := cond_t hc9 hB8
                try simp only [gd_some, Option.bind_eq_some_iff] at hB8
                obtain ⟨r462, hr462, hv10, hB8⟩ := hB8
                replace F := fc hr462 F
                refine go hS F ?_
                refine cb F ((decide (r462 = 0)) && (decide ((D_putlogref07_where N b415 x454 y460).getD 0 = 0))) (fun hc11 => ?_) (fun hc11 => ?_)
                · replace hB8 := cond_t hc11 hB8
                  try simp only [gd_some, Option.bind_eq_some_iff] at hB8
                  obtain ⟨hv12, hv13, hB8⟩ := hB8
                  simp only [I64] at hv13
                  refine go hS F ?_
                  exact backK_n (n, y460 + 1, l461 ++ [(x454, y460)], c459 + 1 + 1 + 1 + 1 + 1) hB8 (Nat.lt_succ_self _) (leF F)
                · replace hB8 := cond_f hc11 hB8
                  try simp only [gd_some, Option.bind_eq_some_iff] at hB8
                  obtain ⟨hv14, hB8⟩ := hB8
                  simp only [I64] at hv14
                  refine go hS F ?_
                  exact backK_n (n, y460 + 1, l461, c459 + 1 + 1 + 1 + 1) hB8 (Nat.lt_succ_self _) (leF F)
              · replace hB8 := cond_f hc9 hB8
                refine go hS F ?_
                exact cutK_h (l461, c459 + 1) (Option.some.inj hB8) (leF F)
          · rintro ⟨l468, c467⟩ hz15
            subst hz15
            try simp only at hB5
            try simp only [gd_some, Option.bind_eq_some_iff] at hB5
            obtain ⟨hv16, hB5⟩ := hB5
            simp only [I64] at hv16
            refine go hS F ?_
            exact backK_n (n, x454 + 1, l468, c467 + 1) hB5 (Nat.lt_succ_self _) (leF F)
        · replace hB5 := cond_f hc6 hB5
          refine go hS F ?_
          exact cutK_h (l455, c453 + 1) (Option.some.inj hB5) (leF F)
    · rintro ⟨l474, c473⟩ hz17
      subst hz17
      try simp only at h
      refine go hS F ?_
      refine cb F (decide ((l474.length : Int) < 2)) (fun hc18 => ?_) (fun hc18 => ?_)
      · replace h := cond_t hc18 h
        obtain rfl := Option.some.inj h
        refine go hS F ?_
        exact fin F
      · replace h := cond_f hc18 h
        try simp only [gd_some, Option.bind_eq_some_iff] at h
        obtain ⟨⟨x476, x477⟩, hn477, h⟩ := h
        have hx477 : l474.getD 0 (0, 0) = (x476, x477) := ixs hn477 _
        have hb477 := (nth_some hn477).1
        replace F := fc hx477 F
        try simp only [gd_some, Option.bind_eq_some_iff] at h
        obtain ⟨hv19, ⟨x479, x480⟩, hn480, h⟩ := h
        simp only [I64] at hv19
        have hx480 : l474.getD ((l474.length : Int) - 1).toNat (0, 0) = (x479, x480) := ixs hn480 _
        have hb480 := (nth_some hn480).1
        replace F := fc hx480 F
        try simp only [gd_some, Option.bind_eq_some_iff] at h
        obtain ⟨o499, hL20, h⟩ := h
        refine go hS F ?_
        refine awp_cut (fun z : Nat => ⟨[(4, .box (0, 1) 0), (10, .box (1503, c473 + 1 + 1) 0), (11, .box (1606, c473 + 1 + 1 + 1) 0)], [(.c (1606, c473 + 1 + 1 + 1) 0, .i x479), (.c (1606, c473 + 1 + 1 + 1) 1, .i x480), (.c (1503, c473 + 1 + 1) 0, .i x476), (.c (1503, c473 + 1 + 1) 1, .i x477), (.c (0, 1) 0, .i 0), (.c (0, 1) 1, .i 0), (.c (0, 1) 2, .i 0), (.c (0, 1) 3, .i 0)], z⟩) (fun z => (.inl () : Sum Unit ((((Int × Int) × (Int × Int)) × Bool))) = o499) (.x 4) ?_ ?_
        · refine awp_loop (fun y : Nat × Int × Nat => ⟨[(0, .sl 2 false (a414.map e_ii) [.i 0, .i 0]), (4, .box (0, 1) 0), (10, .box (1503, c473 + 1 + 1) 0), (11, .box (1606, c473 + 1 + 1 + 1) 0), (12, .i y.2.1)], [(.c (1606, c473 + 1 + 1 + 1) 0, .i x479), (.c (1606, c473 + 1 + 1 + 1) 1, .i x480), (.c (1503, c473 + 1 + 1) 0, .i x476), (.c (1503, c473 + 1 + 1) 1, .i x477), (.c (0, 1) 0, .i 0), (.c (0, 1) 1, .i 0), (.c (0, 1) 2, .i 0), (.c (0, 1) 3, .i 0)], y.2.2⟩) (fun y => D_putlogref07_Seam_L7 N a414 x476 x477 x479 x480 y.1 y.2.1 = some o499) (fun y => y.1) (N, 0, c473 + 1 + 1 + 1 + 1) hL20 ?_ ?_
          · exact leF F
          · rintro ⟨n, i489, c488⟩ hB21
            try simp only at hB21
            obtain _ | n := n
            · exact absurd hB21 (by simp [D_putlogref07_Seam_L7])
            rw [D_putlogref07_Seam_L7] at hB21
            refine go hS F ?_
            refine cb F (decide (i489 < (a414.length : Int))) (fun hc22 => ?_) (fun hc22 => ?_)
            · replace hB21 := cond_t hc22 hB21
              try simp only [gd_some, Option.bind_eq_some_iff] at hB21
              obtain ⟨⟨x490, x491⟩, hn491, hB21⟩ := hB21
              have hx491 : a414.getD i489.toNat (0, 0) = (x490, x491) := ixs hn491 _
              have hb491 := (nth_some hn491).1
              replace F := fc hx491 F
              try simp only [gd_some, Option.bind_eq_some_iff] at hB21
              obtain ⟨r493, hr493, hB21⟩ := hB21
              replace F := fc hr493 F
              refine go hS F ?_
              refine cb F (decide (r493 < 0)) (fun hc23 => ?_) (fun hc23 => ?_)
              · replace hB21 := cond_t hc23 hB21
                obtain rfl := Option.some.inj hB21
                try simp only at h
                obtain rfl := Option.some.inj h
                refine go hS F ?_
                exact fin F
              · replace hB21 := cond_f hc23 hB21
                try simp only [gd_some, Option.bind_eq_some_iff] at hB21
                obtain ⟨hv24, hB21⟩ := hB21
                simp only [I64] at hv24
                refine go hS F ?_
                exact backK_n (n, i489 + 1, c488 + 1 + 1 + 1) hB21 (Nat.lt_succ_self _) (leF F)
            · replace hB21 := cond_f hc22 hB21
              refine go hS F ?_
              exact cutK_h (c488 + 1) (Option.some.inj hB21) (leF F)
        · rintro c497 hz25
          subst hz25
          try simp only at h
          obtain rfl := Option.some.inj h
          refine go hS F ?_
          exact fin F
end

def s42 (N : Nat) : Spec
  | [.sl ya414 _ a414 _, .sl yb415 _ b415 _] => some (((ya414 = 2 ∨ a414 = []) ∧ a414 = (a414.map d_ii).map e_ii) ∧ ((yb415 = 2 ∨ b415 = []) ∧ b415 = (b415.map d_ii).map e_ii) ∧ (D_putlogref07_Seam N (a414.map d_ii) (b415.map d_ii)).isSome = true, .tup [.agg [.i (((((D_putlogref07_Seam N (a414.map d_ii) (b415.map d_ii)).getD (((0, 0), (0, 0)), false)).1).1).1), .i (((((D_putlogref07_Seam N (a414.map d_ii) (b415.map d_ii)).getD (((0, 0), (0, 0)), false)).1).1).2), .i (((((D_putlogref07_Seam N (a414.map d_ii) (b415.map d_ii)).getD (((0, 0), (0, 0)), false)).1).2).1), .i (((((D_putlogref07_Seam N (a414.map d_ii) (b415.map d_ii)).getD (((0, 0), (0, 0)), false)).1).2).2)], .b (((D_putlogref07_Seam N (a414.map d_ii) (b415.map d_ii)).getD (((0, 0), (0, 0)), false)).2)])
  | _ => none
theorem fok42 (N : Nat) : FOK Try.prog 42 (s42 N) := ⟨of42, by
  intro args vc r h hv
  unfold s42 at h
  split at h
  · cases h
    obtain ⟨⟨hy0, hr0⟩, ⟨hy1, hr1⟩, hs⟩ := hv
    obtain ⟨r, hr⟩ := Option.isSome_iff_exists.1 hs
    have hk := D_putlogref07_Seam_ok N _ _ r hr
    simp only [hr, Option.getD_some]
    refine PCall.arg ?_ hk
    simp only [wkL, wk, and_true, true_and, Bool.false_eq_true, false_implies, implies_true]
    repeat' (first | exact True.intro | assumption | apply And.intro)
  · simp at h⟩
end Go.Proofs.Ytojciffnkbfbhaa.Am
