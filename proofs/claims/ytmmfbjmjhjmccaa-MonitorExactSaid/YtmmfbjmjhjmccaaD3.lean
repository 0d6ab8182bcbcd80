import Derived.Test.YtmmfbjmjhjmccaaP14
namespace Go.Proofs.Ytmmfbjmjhjmccaa.Am
open Go
attribute [local irreducible] awp seqK blkK backK endK inlK restK rngK asgK itK
set_option maxRecDepth 100000
set_option maxHeartbeats 8000000
set_option linter.unusedSimpArgs false
set_option linter.unusedVariables false
/-! putlog/putlogref24.Exact -/
def D_putlogref24_Exact_L2 (N : Nat) (s9 : List (Int × Int)) (s2 : Int) (r10 : Int) (s6 : Int) (s7 : Int) (s8 : List Int) (r12 : Int) : Nat → Int → Int → (List (Int × Int)) → Option ((List (Int × Int)))
  | 0, _, _, _ => none
  | n + 1, t42, i43, l44 =>
    bif (decide (i43 < (s9.length : Int))) && (decide (i43 < 12)) then (
      gd (I64 (t42 + 1)) <|
      (nth s9 i43).bind fun (x45, x46) =>
      gd (inI x45) <|
      (some (pickS x45 30)).bind fun r48 =>
      gd (I64 ((t42 + 1) + r48)) <|
      gd (inI s2) <|
      gd (I64 (r10 + ((t42 + 1) + r48))) <|
      gd (inI s6) <|
      gd (inI s7) <|
      gd (∀ r ∈ s8, inI r) <|
      gd (0 ≤ (t42 + 1) + r48 ∧ (t42 + 1) + r48 ≤ 100000) <|
      (some (valueS s6 s7 s8 ((t42 + 1) + r48).toNat)).bind fun r51 =>
      gd (I64 (4 * r12)) <|
      gd (I64 ((4 * r12) + 1)) <|
      gd (inI x46) <|
      gd (0 < (4 * r12) + 1) <|
      (some (pickS x46 ((4 * r12) + 1))).bind fun r53 =>
      gd (I64 (r51 + r53)) <|
      gd (I64 (2 * r12)) <|
      gd (I64 ((r51 + r53) - (2 * r12))) <|
      gd ((l44.length + 1) * 16 ≤ 140737488355328) <|
      gd (I64 (i43 + 1)) <|
      D_putlogref24_Exact_L2 N s9 s2 r10 s6 s7 s8 r12 n ((t42 + 1) + r48) (i43 + 1) (l44 ++ [(r10 + ((t42 + 1) + r48), (r51 + r53) - (2 * r12))]))
    else (
      some l44)

def D_putlogref24_Exact (N : Nat) (s1 : Int) (s2 : Int) (s3 : List Int) (s4 : List (Int × Int × Int)) (s5 : Int) (s6 : Int) (s7 : Int) (s8 : List Int) (s9 : List (Int × Int)) : Option ((Int × (List (Int × Int × Int))) × Int × Int × (List (Int × Int))) :=
  gd (inI s2) <|
  (some (pickS s2 1000)).bind fun r10 =>
  gd (I64 (r10 + 50)) <|
  gd (inI s5) <|
  (some (pickS s5 31)).bind fun r12 =>
  gd (inI s6) <|
  (some (pickS s6 21)).bind fun r14 =>
  (D_putlogref24_Exact_L2 N s9 s2 r10 s6 s7 s8 r12 N 0 0 []).bind fun l60 =>
  some ((0, [(r10 + 50, 50, 50)]), r12, r14, l60)

def T13 (N : Nat) : List (Nat × Spec) := [(32, sPick), (34, sTol), (35, sRate), (28, sValue)]
theorem T13_ok (N : Nat) : TabOK Try.prog (tabOf (T13 N)) := tab_cons pick24_fok (tab_cons tol_fok (tab_cons rate_fok (tab_cons value_fok (tab_nil))))

section
attribute [local go_sem] T13 sPick sTol sRate sValue inI row1 dec1 dec1_row1 rb_row1 row2 dec2 dec2_row2 rb_row2 row3 dec3 dec3_row3 rb_row3 List.length_set
theorem D_putlogref24_Exact_ok (N : Nat) (s1 : Int) (s2 : Int) (s3 : List Int) (s4 : List (Int × Int × Int)) (s5 : Int) (s6 : Int) (s7 : Int) (s8 : List Int) (s9 : List (Int × Int)) (r : (Int × (List (Int × Int × Int))) × Int × Int × (List (Int × Int))) (h : D_putlogref24_Exact N s1 s2 s3 s4 s5 s6 s7 s8 s9 = some r) : PCall Try.prog 13 [.agg [.i s1, .i s2, .sl 1 false (s3.map row1) [.i 0], .sl 3 false (s4.map row3) [.i 0, .i 0, .i 0], .i s5, .i s6, .i s7, .sl 1 false (s8.map row1) [.i 0], .sl 2 false (s9.map row2) [.i 0, .i 0]]] (.agg [.i r.1.1, .sl 3 false (r.1.2.map row3) [.i 0, .i 0, .i 0], .i r.2.1, .i r.2.2.1, .sl 2 false (r.2.2.2.map row2) [.i 0, .i 0]]) := by
  refine pcall_fn (T13_ok N) _ Try.func13 ok13 nt13 (by simp) fun _ => ?_
  have hS := T13_ok N
  unfold ac13 rv13
  unfold D_putlogref24_Exact at h
  try simp only [gd_some, Option.bind_eq_some_iff] at h
  obtain ⟨hv1, r10, hr10, hv2, hv3, r12, hr12, hv4, r14, hr14, h⟩ := h
  have he10 := Option.some.inj hr10
  simp only [I64] at hv2
  have he12 := Option.some.inj hr12
  have he14 := Option.some.inj hr14
  repeat' (first
 | (with_reducible (first | apply awp_sr5 | apply awp_r5 | apply awp_sd | apply awp_d | apply inlR_n5 | apply inlR_r5); (· (first | exact Ctx.fn_ok hS | exact Ctx.rd_ok hS | assumption | exact True.intro)); iterate 2 (· (simp only [go_sem, seval, he10, he12, he14] <;> eq_refl)))
 | with_reducible (first | apply awp_scp | apply awp_sn | apply awp_nop | apply awp_ret | apply awp_exit | apply awp_block | apply awp_seq | apply seqK_n | apply seqK_r | apply seqK_x | apply blkK_n | apply blkK_r | apply blkK_x)
 | (with_reducible apply blkK_y; (· first | rfl | decide))
 | (with_reducible apply cutK_o; (· simp))
 | with_reducible (first | apply backK_x | apply backK_r | apply asgK_n | apply rngK_x | apply rngK_r | apply True.intro | apply And.intro True.intro True.intro)
 | (fail_if_success with_reducible apply K_id); (fail_if_success with_reducible apply awp_id); first | omega | assumption | (refine And.intro ?_ ?_) | (intro hg; simp_all; done) | grind)
  refine awp_claimCk 1000001 (112, 2) 4 2 [.i 0, .i 0] (by omega) (by simp only [go_sem, seval, he10, he12, he14] <;> eq_refl) ?_
  try simp only [gd_some, Option.bind_eq_some_iff] at h
  obtain ⟨o61, hL5, h⟩ := h
  repeat' (first
 | (with_reducible (first | apply awp_sr5 | apply awp_r5 | apply awp_sd | apply awp_d | apply inlR_n5 | apply inlR_r5); (· (first | exact Ctx.fn_ok hS | exact Ctx.rd_ok hS | assumption | exact True.intro)); iterate 2 (· (simp only [go_sem, seval, he10, he12, he14] <;> eq_refl)))
 | with_reducible (first | apply awp_scp | apply awp_sn | apply awp_nop | apply awp_ret | apply awp_exit | apply awp_block | apply awp_seq | apply seqK_n | apply seqK_r | apply seqK_x | apply blkK_n | apply blkK_r | apply blkK_x)
 | (with_reducible apply blkK_y; (· first | rfl | decide))
 | (with_reducible apply cutK_o; (· simp))
 | with_reducible (first | apply backK_x | apply backK_r | apply asgK_n | apply rngK_x | apply rngK_r | apply True.intro | apply And.intro True.intro True.intro)
 | (fail_if_success with_reducible apply K_id); (fail_if_success with_reducible apply awp_id); first | omega | assumption | (refine And.intro ?_ ?_) | (intro hg; simp_all; done) | grind)
  refine awp_cut (fun z : (List (Int × Int)) × Nat => ⟨[(2, .box (1, 1) 0), (3, .box (112, 2) 0)], [(.c (112, 2) 0, .i 0), (.c (112, 2) 1, .own (105, 2) [(r10 + 50, 50, 50)].length), (.c (112, 2) 2, .i r12), (.c (112, 2) 3, .i r14), (.c (112, 2) 4, .own (1000001, 5) z.1.length), (.a (1000001, 5), .sl 2 true (z.1.map row2) [.i 0, .i 0]), (.a (105, 2), .sl 3 true ([(r10 + 50, 50, 50)].map row3) [.i 0, .i 0, .i 0]), (.c (1, 1) 0, .i 0), (.c (1, 1) 1, .sl 0 true [] []), (.c (1, 1) 2, .i 0), (.c (1, 1) 3, .i 0), (.c (1, 1) 4, .sl 0 true [] [])], z.2⟩) (fun z => (z.1 : (List (Int × Int))) = o61) (.x 0) ?_ ?_
  · refine awp_loop (fun y : Nat × Int × Int × (List (Int × Int)) × Nat => ⟨[(1, .box (0, 1) 0), (2, .box (1, 1) 0), (3, .box (112, 2) 0), (4, .i y.2.1), (5, .i y.2.2.1)], [(.c (112, 2) 0, .i 0), (.c (112, 2) 1, .own (105, 2) [(r10 + 50, 50, 50)].length), (.c (112, 2) 2, .i r12), (.c (112, 2) 3, .i r14), (.c (112, 2) 4, .own (1000001, 5) y.2.2.2.1.length), (.a (1000001, 5), .sl 2 true (y.2.2.2.1.map row2) [.i 0, .i 0]), (.a (105, 2), .sl 3 true ([(r10 + 50, 50, 50)].map row3) [.i 0, .i 0, .i 0]), (.c (1, 1) 0, .i 0), (.c (1, 1) 1, .sl 0 true [] []), (.c (1, 1) 2, .i 0), (.c (1, 1) 3, .i 0), (.c (1, 1) 4, .sl 0 true [] []), (.c (0, 1) 0, .i s1), (.c (0, 1) 1, .i s2), (.c (0, 1) 2, .sl 1 false (s3.map row1) [.i 0]), (.c (0, 1) 3, .sl 3 false (s4.map row3) [.i 0, .i 0, .i 0]), (.c (0, 1) 4, .i s5), (.c (0, 1) 5, .i s6), (.c (0, 1) 6, .i s7), (.c (0, 1) 7, .sl 1 false (s8.map row1) [.i 0]), (.c (0, 1) 8, .sl 2 false (s9.map row2) [.i 0, .i 0])], y.2.2.2.2⟩) (fun y => D_putlogref24_Exact_L2 N s9 s2 r10 s6 s7 s8 r12 y.1 y.2.1 y.2.2.1 y.2.2.2.1 = some o61) (fun y => y.1) (N, 0, 0, [], 5) hL5 ?_ ?_
    · refine Le.of ?_ ?_ (by first | exact Nat.le_refl _ | (simp; omega) | simp) <;> first | (simp only [go_sem, seval, he10, he12, he14]; done) | (simp only [go_sem, seval, he10, he12, he14, List.map_append, List.map_cons, List.map_nil, List.map_set, List.map_take, List.map_drop]; done) | (simp [he10, he12, he14, List.map_append, List.map_set]; done)
    · rintro ⟨n, t42, i43, l44, c41⟩ hB6
      try simp only at hB6
      obtain _ | n := n
      · exact absurd hB6 (by simp [D_putlogref24_Exact_L2])
      rw [D_putlogref24_Exact_L2] at hB6
      repeat' (first
 | (with_reducible (first | apply awp_sr5 | apply awp_r5 | apply awp_sd | apply awp_d | apply inlR_n5 | apply inlR_r5); (· (first | exact Ctx.fn_ok hS | exact Ctx.rd_ok hS | assumption | exact True.intro)); iterate 2 (· (simp only [go_sem, seval, he10, he12, he14] <;> eq_refl)))
 | with_reducible (first | apply awp_scp | apply awp_sn | apply awp_nop | apply awp_ret | apply awp_exit | apply awp_block | apply awp_seq | apply seqK_n | apply seqK_r | apply seqK_x | apply blkK_n | apply blkK_r | apply blkK_x)
 | (with_reducible apply blkK_y; (· first | rfl | decide))
 | (with_reducible apply cutK_o; (· simp))
 | with_reducible (first | apply backK_x | apply backK_r | apply asgK_n | apply rngK_x | apply rngK_r | apply True.intro | apply And.intro True.intro True.intro)
 | (fail_if_success with_reducible apply K_id); (fail_if_success with_reducible apply awp_id); first | omega | assumption | (refine And.intro ?_ ?_) | (intro hg; simp_all; done) | grind)
      refine awp_cb (B' := (decide (i43 < (s9.length : Int))) && (decide (i43 < 12))) (by simp only [go_sem, seval, he10, he12, he14] <;> eq_refl) (by first | rfl | (simp; done) | grind) (fun hc7 => ?_) (fun hc7 => ?_)
      · rw [hc7, cond_true] at hB6
        try simp only [gd_some, Option.bind_eq_some_iff] at hB6
        obtain ⟨hv8, ⟨x45, x46⟩, hn46, hB6⟩ := hB6
        simp only [I64] at hv8
        have hx46 : s9.getD i43.toNat (0, 0) = (x45, x46) := ixs hn46 _
        have hb46 := (nth_some hn46).1
        try simp only [gd_some, Option.bind_eq_some_iff] at hB6
        obtain ⟨hv9, r48, hr48, hv10, hv11, hv12, hv13, hv14, hv15, hv16, r51, hr51, hv17, hv18, hv19, hv20, r53, hr53, hv21, hv22, hv23, hv24, hv25, hB6⟩ := hB6
        have he48 := Option.some.inj hr48
        simp only [I64] at hv10
        simp only [I64] at hv12
        have he51 := Option.some.inj hr51
        simp only [I64] at hv17
        simp only [I64] at hv18
        have he53 := Option.some.inj hr53
        simp only [I64] at hv21
        simp only [I64] at hv22
        simp only [I64] at hv23
        simp only [I64] at hv25
        repeat' (first
 | (with_reducible (first | apply awp_sr5 | apply awp_r5 | apply awp_sd | apply awp_d | apply inlR_n5 | apply inlR_r5); (· (first | exact Ctx.fn_ok hS | exact Ctx.rd_ok hS | assumption | exact True.intro)); iterate 2 (· (simp only [go_sem, seval, he10, he12, he14, hx46, he48, he51, he53] <;> eq_refl)))
 | with_reducible (first | apply awp_scp | apply awp_sn | apply awp_nop | apply awp_ret | apply awp_exit | apply awp_block | apply awp_seq | apply seqK_n | apply seqK_r | apply seqK_x | apply blkK_n | apply blkK_r | apply blkK_x)
 | (with_reducible apply blkK_y; (· first | rfl | decide))
 | (with_reducible apply cutK_o; (· simp))
 | with_reducible (first | apply backK_x | apply backK_r | apply asgK_n | apply rngK_x | apply rngK_r | apply True.intro | apply And.intro True.intro True.intro)
 | (fail_if_success with_reducible apply K_id); (fail_if_success with_reducible apply awp_id); first | omega | assumption | (refine And.intro ?_ ?_) | (intro hg; simp_all; done) | grind)
        refine backK_n (n, (t42 + 1) + r48, i43 + 1, l44 ++ [(r10 + ((t42 + 1) + r48), (r51 + r53) - (2 * r12))], c41 + 1 + 1 + 1 + 1) hB6 (Nat.lt_succ_self _) ?_
        refine Le.of ?_ ?_ (by first | exact Nat.le_refl _ | (simp; omega) | simp) <;> first | (simp only [go_sem, seval, he10, he12, he14, hx46, he48, he51, he53]; done) | (simp only [go_sem, seval, he10, he12, he14, hx46, he48, he51, he53, List.map_append, List.map_cons, List.map_nil, List.map_set, List.map_take, List.map_drop]; done) | (simp [he10, he12, he14, hx46, he48, he51, he53, List.map_append, List.map_set]; done)
      · rw [hc7, cond_false] at hB6
        repeat' (first
 | (with_reducible (first | apply awp_sr5 | apply awp_r5 | apply awp_sd | apply awp_d | apply inlR_n5 | apply inlR_r5); (· (first | exact Ctx.fn_ok hS | exact Ctx.rd_ok hS | assumption | exact True.intro)); iterate 2 (· (simp only [go_sem, seval, he10, he12, he14] <;> eq_refl)))
 | with_reducible (first | apply awp_scp | apply awp_sn | apply awp_nop | apply awp_ret | apply awp_exit | apply awp_block | apply awp_seq | apply seqK_n | apply seqK_r | apply seqK_x | apply blkK_n | apply blkK_r | apply blkK_x)
 | (with_reducible apply blkK_y; (· first | rfl | decide))
 | (with_reducible apply cutK_o; (· simp))
 | with_reducible (first | apply backK_x | apply backK_r | apply asgK_n | apply rngK_x | apply rngK_r | apply True.intro | apply And.intro True.intro True.intro)
 | (fail_if_success with_reducible apply K_id); (fail_if_success with_reducible apply awp_id); first | omega | assumption | (refine And.intro ?_ ?_) | (intro hg; simp_all; done) | grind)
        refine cutK_h (l44, c41 + 1) (Option.some.inj hB6) ?_
        refine Le.of ?_ ?_ (by first | exact Nat.le_refl _ | (simp; omega) | simp) <;> first | (simp only [go_sem, seval, he10, he12, he14]; done) | (simp only [go_sem, seval, he10, he12, he14, List.map_append, List.map_cons, List.map_nil, List.map_set, List.map_take, List.map_drop]; done) | (simp [he10, he12, he14, List.map_append, List.map_set]; done)
  · rintro ⟨l60, c59⟩ hz26
    subst hz26
    try simp only at h
    obtain rfl := Option.some.inj h
    repeat' (first
 | (with_reducible (first | apply awp_sr5 | apply awp_r5 | apply awp_sd | apply awp_d | apply inlR_n5 | apply inlR_r5); (· (first | exact Ctx.fn_ok hS | exact Ctx.rd_ok hS | assumption | exact True.intro)); iterate 2 (· (simp only [go_sem, seval, he10, he12, he14] <;> eq_refl)))
 | with_reducible (first | apply awp_scp | apply awp_sn | apply awp_nop | apply awp_ret | apply awp_exit | apply awp_block | apply awp_seq | apply seqK_n | apply seqK_r | apply seqK_x | apply blkK_n | apply blkK_r | apply blkK_x)
 | (with_reducible apply blkK_y; (· first | rfl | decide))
 | (with_reducible apply cutK_o; (· simp))
 | with_reducible (first | apply backK_x | apply backK_r | apply asgK_n | apply rngK_x | apply rngK_r | apply True.intro | apply And.intro True.intro True.intro)
 | (fail_if_success with_reducible apply K_id); (fail_if_success with_reducible apply awp_id); first | omega | assumption | (refine And.intro ?_ ?_) | (intro hg; simp_all; done) | grind)
    first | refine endK_r (by simp only [go_sem, seval, he10, he12, he14] <;> eq_refl) (by simp only [go_sem, seval, he10, he12, he14]) (by simp only [go_sem, seval, he10, he12, he14]) ?_ rfl | refine endK_n (by simp only [go_sem, seval, he10, he12, he14] <;> eq_refl) (by simp only [go_sem, seval, he10, he12, he14]) (by simp only [go_sem, seval, he10, he12, he14]) ?_ rfl
    first | (simp only [go_sem, seval, he10, he12, he14]; done) | (simp only [go_sem, seval, he10, he12, he14, List.map_append, List.map_cons, List.map_nil, List.map_set, List.map_take, List.map_drop]; done) | (simp [he10, he12, he14]; done)
end

def s13 (N : Nat) : Spec
  | [.agg [.v (.int .i64 s1), .v (.int .i64 s2), .sl ys3 _ s3 _, .sl ys4 _ s4 _, .v (.int .i64 s5), .v (.int .i64 s6), .v (.int .i64 s7), .sl ys8 _ s8 _, .sl ys9 _ s9 _]] => some (((ys3 = 1 ∨ s3 = []) ∧ s3 = (s3.map dec1).map row1) ∧ ((ys4 = 3 ∨ s4 = []) ∧ s4 = (s4.map dec3).map row3) ∧ ((ys8 = 1 ∨ s8 = []) ∧ s8 = (s8.map dec1).map row1) ∧ ((ys9 = 2 ∨ s9 = []) ∧ s9 = (s9.map dec2).map row2) ∧ (D_putlogref24_Exact N s1 s2 (s3.map dec1) (s4.map dec3) s5 s6 s7 (s8.map dec1) (s9.map dec2)).isSome = true, .agg [.i ((((D_putlogref24_Exact N s1 s2 (s3.map dec1) (s4.map dec3) s5 s6 s7 (s8.map dec1) (s9.map dec2)).getD ((0, []), 0, 0, [])).1).1), .sl 3 false (((((D_putlogref24_Exact N s1 s2 (s3.map dec1) (s4.map dec3) s5 s6 s7 (s8.map dec1) (s9.map dec2)).getD ((0, []), 0, 0, [])).1).2).map row3) [.i 0, .i 0, .i 0], .i (((D_putlogref24_Exact N s1 s2 (s3.map dec1) (s4.map dec3) s5 s6 s7 (s8.map dec1) (s9.map dec2)).getD ((0, []), 0, 0, [])).2.1), .i (((D_putlogref24_Exact N s1 s2 (s3.map dec1) (s4.map dec3) s5 s6 s7 (s8.map dec1) (s9.map dec2)).getD ((0, []), 0, 0, [])).2.2.1), .sl 2 false ((((D_putlogref24_Exact N s1 s2 (s3.map dec1) (s4.map dec3) s5 s6 s7 (s8.map dec1) (s9.map dec2)).getD ((0, []), 0, 0, [])).2.2.2).map row2) [.i 0, .i 0]])
  | _ => none
theorem fok13 (N : Nat) : FOK Try.prog 13 (s13 N) := ⟨of13, by
  intro args vc r h hv
  unfold s13 at h
  split at h
  · cases h
    obtain ⟨⟨hy0, hr0⟩, ⟨hy1, hr1⟩, ⟨hy2, hr2⟩, ⟨hy3, hr3⟩, hs⟩ := hv
    obtain ⟨r, hr⟩ := Option.isSome_iff_exists.1 hs
    have hk := D_putlogref24_Exact_ok N _ _ _ _ _ _ _ _ _ r hr
    simp only [hr, Option.getD_some]
    refine PCall.arg ?_ hk
    simp only [wkL, wk, and_true, true_and, Bool.false_eq_true, false_implies, implies_true]
    repeat' (first | exact True.intro | assumption | apply And.intro)
  · simp at h⟩

/-! putlog/putloglaw24.MonitorExact -/
def D_putloglaw24_MonitorExact_L3 (N : Nat) (r77 : List (Int × Int)) (r73 : Int) (r74 : List (Int × Int × Int)) (r75 : Int) (r76 : Int) : Nat → Bool → Int → (List Int) → (List Int) → Option (Sum (Bool × (List Int) × (List Int)) Bool)
  | 0, _, _, _, _ => none
  | n + 1, bad124, i125, l126, l127 =>
    bif decide (i125 < (r77.length : Int)) then (
      (nth r77 i125).bind fun (x128, x129) =>
      (some (atS r73 r74 x128)).bind fun (r131, r132, r133) =>
      gd (r77.length ≤ 1000) <|
      (some (boundsS ⟨r73, r74, r75, r76, r77⟩ r131)).bind fun (r135, r136, r137) =>
      bif (decide (r133 ≠ 0)) || (decide (r131 ≠ r132)) then (
        some (.inr false))
      else (
        gd ((l127.length + 1) * 8 ≤ 140737488355328) <|
        gd ((l126.length + 1) * 8 ≤ 140737488355328) <|
        gd (I64 (i125 + 1)) <|
        D_putloglaw24_MonitorExact_L3 N r77 r73 r74 r75 r76 n (bad124 || (decide (r137 ≠ 0))) (i125 + 1) (l126 ++ [r135]) (l127 ++ [r131])))
    else (
      some (.inl (bad124, l126, l127)))

def D_putloglaw24_MonitorExact_L9 (N : Nat) (l147 : List Int) (i234 : Int) (r76 : Int) (r77 : List (Int × Int)) (r75 : Int) : Nat → Int → Option (Sum Unit Bool)
  | 0, _ => none
  | n + 1, k247 =>
    bif decide (k247 < (l147.length : Int)) then (
      (nth l147 i234).bind fun x248 =>
      (nth l147 k247).bind fun x250 =>
      gd (I64 (x248 - x250)) <|
      gd (I64 (x250 - x248)) <|
      gd (I64 (r76 * (max (x248 - x250) (x250 - x248)))) <|
      (nth r77 i234).bind fun (x252, x253) =>
      (nth r77 k247).bind fun (x255, x256) =>
      gd (I64 (x253 - x256)) <|
      gd (I64 (2 * r75)) <|
      gd (I64 ((2 * r75) + (r76 * (max (x248 - x250) (x250 - x248))))) <|
      bif decide ((2 * r75) + (r76 * (max (x248 - x250) (x250 - x248))) < x253 - x256) then (
        some (.inr true))
      else (
        gd (I64 (k247 + 1)) <|
        D_putloglaw24_MonitorExact_L9 N l147 i234 r76 r77 r75 n (k247 + 1)))
    else (
      some (.inl ()))

def D_putloglaw24_MonitorExact_L7 (N : Nat) (l147 : List Int) (r76 : Int) (r77 : List (Int × Int)) (r75 : Int) : Nat → Int → Option (Sum Unit Bool)
  | 0, _ => none
  | n + 1, i234 =>
    bif decide (i234 < (l147.length : Int)) then (
      (D_putloglaw24_MonitorExact_L9 N l147 i234 r76 r77 r75 N 0).bind fun o262 => match o262 with
        | .inl () => (
          gd (I64 (i234 + 1)) <|
          D_putloglaw24_MonitorExact_L7 N l147 r76 r77 r75 n (i234 + 1))
        | .inr r261 => (
          some (.inr r261)))
    else (
      some (.inl ()))

def D_putloglaw24_MonitorExact_L14 (N : Nat) (i296 : Int) (l147 : List Int) (x298 : Int) (r76 : Int) (l297 : List Int) (x300 : Int) (r81 : Int) (r268 : Int) (r79 : Int) : Nat → Int → Option (Sum Unit Bool)
  | 0, _ => none
  | n + 1, k311 =>
    bif decide (k311 < i296) then (
      (nth l147 k311).bind fun x312 =>
      gd (I64 (x298 - x312)) <|
      gd (I64 (r76 * (x298 - x312))) <|
      (nth (l297 ++ [max x300 ((r81 + r268) - (r76 * (max (x298 - r79) (r79 - x298))))]) k311).bind fun x314 =>
      gd (I64 ((max x300 ((r81 + r268) - (r76 * (max (x298 - r79) (r79 - x298))))) - x314)) <|
      gd ((!(decide (r76 * (x298 - x312) < (max x300 ((r81 + r268) - (r76 * (max (x298 - r79) (r79 - x298))))) - x314))) = true → (I64 (x314 - (max x300 ((r81 + r268) - (r76 * (max (x298 - r79) (r79 - x298)))))))) <|
      bif (decide (r76 * (x298 - x312) < (max x300 ((r81 + r268) - (r76 * (max (x298 - r79) (r79 - x298))))) - x314)) || (decide (r76 * (x298 - x312) < x314 - (max x300 ((r81 + r268) - (r76 * (max (x298 - r79) (r79 - x298))))))) then (
        some (.inr false))
      else (
        gd (I64 (k311 + 1)) <|
        D_putloglaw24_MonitorExact_L14 N i296 l147 x298 r76 l297 x300 r81 r268 r79 n (k311 + 1)))
    else (
      some (.inl ()))

def D_putloglaw24_MonitorExact_L12 (N : Nat) (l147 : List Int) (r79 : Int) (r76 : Int) (l146 : List Int) (r81 : Int) (r268 : Int) (r77 : List (Int × Int)) (r75 : Int) : Nat → Int → (List Int) → Option (Sum Unit Bool)
  | 0, _, _ => none
  | n + 1, i296, l297 =>
    bif decide (i296 < (l147.length : Int)) then (
      (nth l147 i296).bind fun x298 =>
      gd (I64 (x298 - r79)) <|
      gd (I64 (r79 - x298)) <|
      gd (I64 (r76 * (max (x298 - r79) (r79 - x298)))) <|
      (nth l146 i296).bind fun x300 =>
      gd (I64 ((r81 + r268) - (r76 * (max (x298 - r79) (r79 - x298))))) <|
      (nth r77 i296).bind fun (x302, x303) =>
      gd (I64 ((max x300 ((r81 + r268) - (r76 * (max (x298 - r79) (r79 - x298))))) - x303)) <|
      gd ((!(decide (r75 < (max x300 ((r81 + r268) - (r76 * (max (x298 - r79) (r79 - x298))))) - x303))) = true → (I64 (x303 - (max x300 ((r81 + r268) - (r76 * (max (x298 - r79) (r79 - x298)))))))) <|
      gd ((!((decide (r75 < (max x300 ((r81 + r268) - (r76 * (max (x298 - r79) (r79 - x298))))) - x303)) || (decide (r75 < x303 - (max x300 ((r81 + r268) - (r76 * (max (x298 - r79) (r79 - x298))))))))) = true → (I64 ((max x300 ((r81 + r268) - (r76 * (max (x298 - r79) (r79 - x298))))) - (r81 + r268)))) <|
      gd ((!(((decide (r75 < (max x300 ((r81 + r268) - (r76 * (max (x298 - r79) (r79 - x298))))) - x303)) || (decide (r75 < x303 - (max x300 ((r81 + r268) - (r76 * (max (x298 - r79) (r79 - x298)))))))) || (decide (r76 * (max (x298 - r79) (r79 - x298)) < (max x300 ((r81 + r268) - (r76 * (max (x298 - r79) (r79 - x298))))) - (r81 + r268))))) = true → (I64 ((r81 + r268) - (max x300 ((r81 + r268) - (r76 * (max (x298 - r79) (r79 - x298)))))))) <|
      bif (((((decide (r75 < (max x300 ((r81 + r268) - (r76 * (max (x298 - r79) (r79 - x298))))) - x303)) || (decide (r75 < x303 - (max x300 ((r81 + r268) - (r76 * (max (x298 - r79) (r79 - x298)))))))) || (decide (r76 * (max (x298 - r79) (r79 - x298)) < (max x300 ((r81 + r268) - (r76 * (max (x298 - r79) (r79 - x298))))) - (r81 + r268)))) || (decide (r76 * (max (x298 - r79) (r79 - x298)) < (r81 + r268) - (max x300 ((r81 + r268) - (r76 * (max (x298 - r79) (r79 - x298)))))))) || (decide (max x300 ((r81 + r268) - (r76 * (max (x298 - r79) (r79 - x298)))) < (-1000000)))) || (decide (1000000 < max x300 ((r81 + r268) - (r76 * (max (x298 - r79) (r79 - x298)))))) then (
        some (.inr false))
      else (
        gd ((l297.length + 1) * 8 ≤ 140737488355328) <|
        (D_putloglaw24_MonitorExact_L14 N i296 l147 x298 r76 l297 x300 r81 r268 r79 N 0).bind fun o320 => match o320 with
          | .inl () => (
            gd (I64 (i296 + 1)) <|
            D_putloglaw24_MonitorExact_L12 N l147 r79 r76 l146 r81 r268 r77 r75 n (i296 + 1) (l297 ++ [max x300 ((r81 + r268) - (r76 * (max (x298 - r79) (r79 - x298))))]))
          | .inr r319 => (
            some (.inr r319))))
    else (
      some (.inl ()))

def D_putloglaw24_MonitorExact (N : Nat) (x62 : Int) (x63 : Int) (x64 : List Int) (x65 : List (Int × Int × Int)) (x66 : Int) (x67 : Int) (x68 : Int) (x69 : List Int) (x70 : List (Int × Int)) (t71 : Int) (which72 : Int) : Option Bool :=
  (D_putlogref24_Exact N x62 x63 x64 x65 x66 x67 x68 x69 x70).bind fun ((r73, r74), r75, r76, r77) =>
  gd (inI t71) <|
  (some (pickS t71 400)).bind fun r79 =>
  gd (r77.length ≤ 1000) <|
  (some (boundsS ⟨r73, r74, r75, r76, r77⟩ r79)).bind fun (r81, r82, r83) =>
  (D_putloglaw24_MonitorExact_L3 N r77 r73 r74 r75 r76 N (decide (r83 ≠ 0)) 0 [] []).bind fun o149 => match o149 with
    | .inl (bad145, l146, l147) => (
      bif bad145 then (
        (D_putloglaw24_MonitorExact_L7 N l147 r76 r77 r75 N 0).bind fun o267 => match o267 with
          | .inl () => (
            some false)
          | .inr r266 => (
            some r266))
      else (
        gd (I64 (r82 - r81)) <|
        gd (I64 ((r82 - r81) + 1)) <|
        gd (inI which72) <|
        gd (0 < (r82 - r81) + 1) <|
        (some (pickS which72 ((r82 - r81) + 1))).bind fun r268 =>
        gd (I64 (r81 + r268)) <|
        (D_putloglaw24_MonitorExact_L12 N l147 r79 r76 l146 r81 r268 r77 r75 N 0 []).bind fun o326 => match o326 with
          | .inl () => (
            some (((decide (r81 ≤ r82)) && (decide ((-1000000) ≤ r81))) && (decide (r82 ≤ 1000000))))
          | .inr r325 => (
            some r325)))
    | .inr r148 => (
      some r148)

def T5 (N : Nat) : List (Nat × Spec) := [(11, sSane), (13, s13 N), (15, sPick), (18, sBounds), (29, sAt)]
theorem T5_ok (N : Nat) : TabOK Try.prog (tabOf (T5 N)) := tab_cons sane_fok (tab_cons (fok13 N) (tab_cons pick_fok (tab_cons bounds_fok (tab_cons at_fok (tab_nil)))))

section
attribute [local go_sem] T5 sSane s13 sPick sBounds sAt inI gP tup3 row1 dec1 dec1_row1 rb_row1 row2 dec2 dec2_row2 rb_row2 row3 dec3 dec3_row3 rb_row3 List.length_set
theorem D_putloglaw24_MonitorExact_ok (N : Nat) (x62 : Int) (x63 : Int) (x64 : List Int) (x65 : List (Int × Int × Int)) (x66 : Int) (x67 : Int) (x68 : Int) (x69 : List Int) (x70 : List (Int × Int)) (t71 : Int) (which72 : Int) (r : Bool) (h : D_putloglaw24_MonitorExact N x62 x63 x64 x65 x66 x67 x68 x69 x70 t71 which72 = some r) : PCall Try.prog 5 [.agg [.i x62, .i x63, .sl 1 false (x64.map row1) [.i 0], .sl 3 false (x65.map row3) [.i 0, .i 0, .i 0], .i x66, .i x67, .i x68, .sl 1 false (x69.map row1) [.i 0], .sl 2 false (x70.map row2) [.i 0, .i 0]], .i t71, .i which72] (.b r) := by
  refine pcall_fn (T5_ok N) _ Try.func5 ok5 nt5 (by simp) fun _ => ?_
  have hS := T5_ok N
  unfold ac5 rv5
  unfold D_putloglaw24_MonitorExact at h
  repeat' (first
 | (with_reducible (first | apply awp_sr5 | apply awp_r5 | apply awp_sd | apply awp_d | apply inlR_n5 | apply inlR_r5); (· (first | exact Ctx.fn_ok hS | exact Ctx.rd_ok hS | assumption | exact True.intro)); iterate 2 (· (simp only [go_sem, seval] <;> eq_refl)))
 | with_reducible (first | apply awp_scp | apply awp_sn | apply awp_nop | apply awp_ret | apply awp_exit | apply awp_block | apply awp_seq | apply seqK_n | apply seqK_r | apply seqK_x | apply blkK_n | apply blkK_r | apply blkK_x)
 | (with_reducible apply blkK_y; (· first | rfl | decide))
 | (with_reducible apply cutK_o; (· simp))
 | with_reducible (first | apply backK_x | apply backK_r | apply asgK_n | apply rngK_x | apply rngK_r | apply True.intro | apply And.intro True.intro True.intro)
 | (fail_if_success with_reducible apply K_id); (fail_if_success with_reducible apply awp_id); first | omega | assumption | (refine And.intro ?_ ?_) | (intro hg; simp_all; done) | grind)
  refine awp_cf (by simp only [go_sem, seval] <;> eq_refl) ?_
  try simp only [gd_some, Option.bind_eq_some_iff] at h
  obtain ⟨⟨⟨r73, r74⟩, r75, r76, r77⟩, hr77, h⟩ := h
  try simp only [gd_some, Option.bind_eq_some_iff] at h
  obtain ⟨hv1, r79, hr79, hv2, ⟨r81, r82, r83⟩, hr83, h⟩ := h
  have he79 := Option.some.inj hr79
  have he83 := Option.some.inj hr83
  repeat' (first
 | (with_reducible (first | apply awp_sr5 | apply awp_r5 | apply awp_sd | apply awp_d | apply inlR_n5 | apply inlR_r5); (· (first | exact Ctx.fn_ok hS | exact Ctx.rd_ok hS | assumption | exact True.intro)); iterate 2 (· (simp only [go_sem, seval, hr77, he79, he83] <;> eq_refl)))
 | with_reducible (first | apply awp_scp | apply awp_sn | apply awp_nop | apply awp_ret | apply awp_exit | apply awp_block | apply awp_seq | apply seqK_n | apply seqK_r | apply seqK_x | apply blkK_n | apply blkK_r | apply blkK_x)
 | (with_reducible apply blkK_y; (· first | rfl | decide))
 | (with_reducible apply cutK_o; (· simp))
 | with_reducible (first | apply backK_x | apply backK_r | apply asgK_n | apply rngK_x | apply rngK_r | apply True.intro | apply And.intro True.intro True.intro)
 | (fail_if_success with_reducible apply K_id); (fail_if_success with_reducible apply awp_id); first | omega | assumption | (refine And.intro ?_ ?_) | (intro hg; simp_all; done) | grind)
  refine awp_claimEk 1000001 13 1 [.i 0] (by show (13 : Nat) < 284; omega) (by omega) (by simp only [go_sem, seval, hr77, he79, he83] <;> eq_refl) ?_
  repeat' (first
 | (with_reducible (first | apply awp_sr5 | apply awp_r5 | apply awp_sd | apply awp_d | apply inlR_n5 | apply inlR_r5); (· (first | exact Ctx.fn_ok hS | exact Ctx.rd_ok hS | assumption | exact True.intro)); iterate 2 (· (simp only [go_sem, seval, hr77, he79, he83] <;> eq_refl)))
 | with_reducible (first | apply awp_scp | apply awp_sn | apply awp_nop | apply awp_ret | apply awp_exit | apply awp_block | apply awp_seq | apply seqK_n | apply seqK_r | apply seqK_x | apply blkK_n | apply blkK_r | apply blkK_x)
 | (with_reducible apply blkK_y; (· first | rfl | decide))
 | (with_reducible apply cutK_o; (· simp))
 | with_reducible (first | apply backK_x | apply backK_r | apply asgK_n | apply rngK_x | apply rngK_r | apply True.intro | apply And.intro True.intro True.intro)
 | (fail_if_success with_reducible apply K_id); (fail_if_success with_reducible apply awp_id); first | omega | assumption | (refine And.intro ?_ ?_) | (intro hg; simp_all; done) | grind)
  refine awp_claimEk 1000002 14 1 [.i 0] (by show (14 : Nat) < 284; omega) (by omega) (by simp only [go_sem, seval, hr77, he79, he83] <;> eq_refl) ?_
  try simp only [gd_some, Option.bind_eq_some_iff] at h
  obtain ⟨o149, hL3, h⟩ := h
  repeat' (first
 | (with_reducible (first | apply awp_sr5 | apply awp_r5 | apply awp_sd | apply awp_d | apply inlR_n5 | apply inlR_r5); (· (first | exact Ctx.fn_ok hS | exact Ctx.rd_ok hS | assumption | exact True.intro)); iterate 2 (· (simp only [go_sem, seval, hr77, he79, he83] <;> eq_refl)))
 | with_reducible (first | apply awp_scp | apply awp_sn | apply awp_nop | apply awp_ret | apply awp_exit | apply awp_block | apply awp_seq | apply seqK_n | apply seqK_r | apply seqK_x | apply blkK_n | apply blkK_r | apply blkK_x)
 | (with_reducible apply blkK_y; (· first | rfl | decide))
 | (with_reducible apply cutK_o; (· simp))
 | with_reducible (first | apply backK_x | apply backK_r | apply asgK_n | apply rngK_x | apply rngK_r | apply True.intro | apply And.intro True.intro True.intro)
 | (fail_if_success with_reducible apply K_id); (fail_if_success with_reducible apply awp_id); first | omega | assumption | (refine And.intro ?_ ?_) | (intro hg; simp_all; done) | grind)
  refine awp_cut (fun z : Bool × (List Int) × (List Int) × Nat => ⟨[(2, .i which72), (7, .b true), (8, .box (402, 4) 0), (9, .i r79), (10, .i r81), (11, .i r82), (13, .own (1000001, 11) z.2.2.1.length), (14, .own (1000002, 12) z.2.1.length), (15, .b z.1)], [(.a (1000002, 12), .sl 1 true (z.2.1.map row1) [.i 0]), (.a (1000001, 11), .sl 1 true (z.2.2.1.map row1) [.i 0]), (.c (402, 4) 0, .i r73), (.c (402, 4) 1, .sl 3 false (r74.map row3) [.i 0, .i 0, .i 0]), (.c (402, 4) 2, .i r75), (.c (402, 4) 3, .i r76), (.c (402, 4) 4, .sl 2 false (r77.map row2) [.i 0, .i 0])], z.2.2.2⟩) (fun z => (.inl (z.1, z.2.1, z.2.2.1) : Sum (Bool × (List Int) × (List Int)) Bool) = o149) (.x 0) ?_ ?_
  · refine awp_loop (fun y : Nat × Bool × Int × (List Int) × (List Int) × Nat => ⟨[(2, .i which72), (7, .b true), (8, .box (402, 4) 0), (9, .i r79), (10, .i r81), (11, .i r82), (13, .own (1000001, 11) y.2.2.2.2.1.length), (14, .own (1000002, 12) y.2.2.2.1.length), (15, .b y.2.1), (16, .i y.2.2.1)], [(.a (1000002, 12), .sl 1 true (y.2.2.2.1.map row1) [.i 0]), (.a (1000001, 11), .sl 1 true (y.2.2.2.2.1.map row1) [.i 0]), (.c (402, 4) 0, .i r73), (.c (402, 4) 1, .sl 3 false (r74.map row3) [.i 0, .i 0, .i 0]), (.c (402, 4) 2, .i r75), (.c (402, 4) 3, .i r76), (.c (402, 4) 4, .sl 2 false (r77.map row2) [.i 0, .i 0])], y.2.2.2.2.2⟩) (fun y => D_putloglaw24_MonitorExact_L3 N r77 r73 r74 r75 r76 y.1 y.2.1 y.2.2.1 y.2.2.2.1 y.2.2.2.2.1 = some o149) (fun y => y.1) (N, decide (r83 ≠ 0), 0, [], [], 12) hL3 ?_ ?_
    · refine Le.of ?_ ?_ (by first | exact Nat.le_refl _ | (simp; omega) | simp) <;> first | (simp only [go_sem, seval, hr77, he79, he83]; done) | (simp only [go_sem, seval, hr77, he79, he83, List.map_append, List.map_cons, List.map_nil, List.map_set, List.map_take, List.map_drop]; done) | (simp [hr77, he79, he83, List.map_append, List.map_set]; done)
    · rintro ⟨n, bad124, i125, l126, l127, c123⟩ hB4
      try simp only at hB4
      obtain _ | n := n
      · exact absurd hB4 (by simp [D_putloglaw24_MonitorExact_L3])
      rw [D_putloglaw24_MonitorExact_L3] at hB4
      repeat' (first
 | (with_reducible (first | apply awp_sr5 | apply awp_r5 | apply awp_sd | apply awp_d | apply inlR_n5 | apply inlR_r5); (· (first | exact Ctx.fn_ok hS | exact Ctx.rd_ok hS | assumption | exact True.intro)); iterate 2 (· (simp only [go_sem, seval, hr77, he79, he83] <;> eq_refl)))
 | with_reducible (first | apply awp_scp | apply awp_sn | apply awp_nop | apply awp_ret | apply awp_exit | apply awp_block | apply awp_seq | apply seqK_n | apply seqK_r | apply seqK_x | apply blkK_n | apply blkK_r | apply blkK_x)
 | (with_reducible apply blkK_y; (· first | rfl | decide))
 | (with_reducible apply cutK_o; (· simp))
 | with_reducible (first | apply backK_x | apply backK_r | apply asgK_n | apply rngK_x | apply rngK_r | apply True.intro | apply And.intro True.intro True.intro)
 | (fail_if_success with_reducible apply K_id); (fail_if_success with_reducible apply awp_id); first | omega | assumption | (refine And.intro ?_ ?_) | (intro hg; simp_all; done) | grind)
      refine awp_cb (B' := decide (i125 < (r77.length : Int))) (by simp only [go_sem, seval, hr77, he79, he83] <;> eq_refl) (by first | rfl | (simp; done) | grind) (fun hc5 => ?_) (fun hc5 => ?_)
      · rw [hc5, cond_true] at hB4
        try simp only [gd_some, Option.bind_eq_some_iff] at hB4
        obtain ⟨⟨x128, x129⟩, hn129, hB4⟩ := hB4
        have hx129 : r77.getD i125.toNat (0, 0) = (x128, x129) := ixs hn129 _
        have hb129 := (nth_some hn129).1
        try simp only [gd_some, Option.bind_eq_some_iff] at hB4
        obtain ⟨⟨r131, r132, r133⟩, hr133, hB4⟩ := hB4
        have he133 := Option.some.inj hr133
        try simp only [gd_some, Option.bind_eq_some_iff] at hB4
        obtain ⟨hv6, ⟨r135, r136, r137⟩, hr137, hB4⟩ := hB4
        have he137 := Option.some.inj hr137
        repeat' (first
 | (with_reducible (first | apply awp_sr5 | apply awp_r5 | apply awp_sd | apply awp_d | apply inlR_n5 | apply inlR_r5); (· (first | exact Ctx.fn_ok hS | exact Ctx.rd_ok hS | assumption | exact True.intro)); iterate 2 (· (simp only [go_sem, seval, hr77, he79, he83, hx129, he133, he137] <;> eq_refl)))
 | with_reducible (first | apply awp_scp | apply awp_sn | apply awp_nop | apply awp_ret | apply awp_exit | apply awp_block | apply awp_seq | apply seqK_n | apply seqK_r | apply seqK_x | apply blkK_n | apply blkK_r | apply blkK_x)
 | (with_reducible apply blkK_y; (· first | rfl | decide))
 | (with_reducible apply cutK_o; (· simp))
 | with_reducible (first | apply backK_x | apply backK_r | apply asgK_n | apply rngK_x | apply rngK_r | apply True.intro | apply And.intro True.intro True.intro)
 | (fail_if_success with_reducible apply K_id); (fail_if_success with_reducible apply awp_id); first | omega | assumption | (refine And.intro ?_ ?_) | (intro hg; simp_all; done) | grind)
        refine awp_cb (B' := (decide (r133 ≠ 0)) || (decide (r131 ≠ r132))) (by simp only [go_sem, seval, hr77, he79, he83, hx129, he133, he137] <;> eq_refl) (by first | rfl | (simp; done) | grind) (fun hc7 => ?_) (fun hc7 => ?_)
        · rw [hc7, cond_true] at hB4
          obtain rfl := Option.some.inj hB4
          try simp only at h
          obtain rfl := Option.some.inj h
          repeat' (first
 | (with_reducible (first | apply awp_sr5 | apply awp_r5 | apply awp_sd | apply awp_d | apply inlR_n5 | apply inlR_r5); (· (first | exact Ctx.fn_ok hS | exact Ctx.rd_ok hS | assumption | exact True.intro)); iterate 2 (· (simp only [go_sem, seval, hr77, he79, he83, hx129, he133, he137] <;> eq_refl)))
 | with_reducible (first | apply awp_scp | apply awp_sn | apply awp_nop | apply awp_ret | apply awp_exit | apply awp_block | apply awp_seq | apply seqK_n | apply seqK_r | apply seqK_x | apply blkK_n | apply blkK_r | apply blkK_x)
 | (with_reducible apply blkK_y; (· first | rfl | decide))
 | (with_reducible apply cutK_o; (· simp))
 | with_reducible (first | apply backK_x | apply backK_r | apply asgK_n | apply rngK_x | apply rngK_r | apply True.intro | apply And.intro True.intro True.intro)
 | (fail_if_success with_reducible apply K_id); (fail_if_success with_reducible apply awp_id); first | omega | assumption | (refine And.intro ?_ ?_) | (intro hg; simp_all; done) | grind)
          first | refine endK_r (by simp only [go_sem, seval, hr77, he79, he83, hx129, he133, he137] <;> eq_refl) (by simp only [go_sem, seval, hr77, he79, he83, hx129, he133, he137]) (by simp only [go_sem, seval, hr77, he79, he83, hx129, he133, he137]) ?_ rfl | refine endK_n (by simp only [go_sem, seval, hr77, he79, he83, hx129, he133, he137] <;> eq_refl) (by simp only [go_sem, seval, hr77, he79, he83, hx129, he133, he137]) (by simp only [go_sem, seval, hr77, he79, he83, hx129, he133, he137]) ?_ rfl
          first | (simp only [go_sem, seval, hr77, he79, he83, hx129, he133, he137]; done) | (simp only [go_sem, seval, hr77, he79, he83, hx129, he133, he137, List.map_append, List.map_cons, List.map_nil, List.map_set, List.map_take, List.map_drop]; done) | (simp [hr77, he79, he83, hx129, he133, he137]; done)
        · rw [hc7, cond_false] at hB4
          try simp only [gd_some, Option.bind_eq_some_iff] at hB4
          obtain ⟨hv8, hv9, hv10, hB4⟩ := hB4
          simp only [I64] at hv10
          repeat' (first
 | (with_reducible (first | apply awp_sr5 | apply awp_r5 | apply awp_sd | apply awp_d | apply inlR_n5 | apply inlR_r5); (· (first | exact Ctx.fn_ok hS | exact Ctx.rd_ok hS | assumption | exact True.intro)); iterate 2 (· (simp only [go_sem, seval, hr77, he79, he83, hx129, he133, he137] <;> eq_refl)))
 | with_reducible (first | apply awp_scp | apply awp_sn | apply awp_nop | apply awp_ret | apply awp_exit | apply awp_block | apply awp_seq | apply seqK_n | apply seqK_r | apply seqK_x | apply blkK_n | apply blkK_r | apply blkK_x)
 | (with_reducible apply blkK_y; (· first | rfl | decide))
 | (with_reducible apply cutK_o; (· simp))
 | with_reducible (first | apply backK_x | apply backK_r | apply asgK_n | apply rngK_x | apply rngK_r | apply True.intro | apply And.intro True.intro True.intro)
 | (fail_if_success with_reducible apply K_id); (fail_if_success with_reducible apply awp_id); first | omega | assumption | (refine And.intro ?_ ?_) | (intro hg; simp_all; done) | grind)
          refine backK_n (n, bad124 || (decide (r137 ≠ 0)), i125 + 1, l126 ++ [r135], l127 ++ [r131], c123 + 1 + 1 + 1 + 1 + 1 + 1 + 1 + 1) hB4 (Nat.lt_succ_self _) ?_
          refine Le.of ?_ ?_ (by first | exact Nat.le_refl _ | (simp; omega) | simp) <;> first | (simp only [go_sem, seval, hr77, he79, he83, hx129, he133, he137]; done) | (simp only [go_sem, seval, hr77, he79, he83, hx129, he133, he137, List.map_append, List.map_cons, List.map_nil, List.map_set, List.map_take, List.map_drop]; done) | (simp [hr77, he79, he83, hx129, he133, he137, List.map_append, List.map_set]; done)
      · rw [hc5, cond_false] at hB4
        repeat' (first
 | (with_reducible (first | apply awp_sr5 | apply awp_r5 | apply awp_sd | apply awp_d | apply inlR_n5 | apply inlR_r5); (· (first | exact Ctx.fn_ok hS | exact Ctx.rd_ok hS | assumption | exact True.intro)); iterate 2 (· (simp only [go_sem, seval, hr77, he79, he83] <;> eq_refl)))
 | with_reducible (first | apply awp_scp | apply awp_sn | apply awp_nop | apply awp_ret | apply awp_exit | apply awp_block | apply awp_seq | apply seqK_n | apply seqK_r | apply seqK_x | apply blkK_n | apply blkK_r | apply blkK_x)
 | (with_reducible apply blkK_y; (· first | rfl | decide))
 | (with_reducible apply cutK_o; (· simp))
 | with_reducible (first | apply backK_x | apply backK_r | apply asgK_n | apply rngK_x | apply rngK_r | apply True.intro | apply And.intro True.intro True.intro)
 | (fail_if_success with_reducible apply K_id); (fail_if_success with_reducible apply awp_id); first | omega | assumption | (refine And.intro ?_ ?_) | (intro hg; simp_all; done) | grind)
        refine cutK_h (bad124, l126, l127, c123 + 1) (Option.some.inj hB4) ?_
        refine Le.of ?_ ?_ (by first | exact Nat.le_refl _ | (simp; omega) | simp) <;> first | (simp only [go_sem, seval, hr77, he79, he83]; done) | (simp only [go_sem, seval, hr77, he79, he83, List.map_append, List.map_cons, List.map_nil, List.map_set, List.map_take, List.map_drop]; done) | (simp [hr77, he79, he83, List.map_append, List.map_set]; done)
  · rintro ⟨bad145, l146, l147, c144⟩ hz11
    subst hz11
    try simp only at h
    repeat' (first
 | (with_reducible (first | apply awp_sr5 | apply awp_r5 | apply awp_sd | apply awp_d | apply inlR_n5 | apply inlR_r5); (· (first | exact Ctx.fn_ok hS | exact Ctx.rd_ok hS | assumption | exact True.intro)); iterate 2 (· (simp only [go_sem, seval, hr77, he79, he83] <;> eq_refl)))
 | with_reducible (first | apply awp_scp | apply awp_sn | apply awp_nop | apply awp_ret | apply awp_exit | apply awp_block | apply awp_seq | apply seqK_n | apply seqK_r | apply seqK_x | apply blkK_n | apply blkK_r | apply blkK_x)
 | (with_reducible apply blkK_y; (· first | rfl | decide))
 | (with_reducible apply cutK_o; (· simp))
 | with_reducible (first | apply backK_x | apply backK_r | apply asgK_n | apply rngK_x | apply rngK_r | apply True.intro | apply And.intro True.intro True.intro)
 | (fail_if_success with_reducible apply K_id); (fail_if_success with_reducible apply awp_id); first | omega | assumption | (refine And.intro ?_ ?_) | (intro hg; simp_all; done) | grind)
    refine awp_cb (B' := bad145) (by simp only [go_sem, seval, hr77, he79, he83] <;> eq_refl) (by first | rfl | (simp; done) | grind) (fun hc12 => ?_) (fun hc12 => ?_)
    · rw [hc12, cond_true] at h
      try simp only [gd_some, Option.bind_eq_some_iff] at h
      obtain ⟨o267, hL13, h⟩ := h
      repeat' (first
 | (with_reducible (first | apply awp_sr5 | apply awp_r5 | apply awp_sd | apply awp_d | apply inlR_n5 | apply inlR_r5); (· (first | exact Ctx.fn_ok hS | exact Ctx.rd_ok hS | assumption | exact True.intro)); iterate 2 (· (simp only [go_sem, seval, hr77, he79, he83] <;> eq_refl)))
 | with_reducible (first | apply awp_scp | apply awp_sn | apply awp_nop | apply awp_ret | apply awp_exit | apply awp_block | apply awp_seq | apply seqK_n | apply seqK_r | apply seqK_x | apply blkK_n | apply blkK_r | apply blkK_x)
 | (with_reducible apply blkK_y; (· first | rfl | decide))
 | (with_reducible apply cutK_o; (· simp))
 | with_reducible (first | apply backK_x | apply backK_r | apply asgK_n | apply rngK_x | apply rngK_r | apply True.intro | apply And.intro True.intro True.intro)
 | (fail_if_success with_reducible apply K_id); (fail_if_success with_reducible apply awp_id); first | omega | assumption | (refine And.intro ?_ ?_) | (intro hg; simp_all; done) | grind)
      refine awp_cut (fun z : Nat => ⟨[], [], z⟩) (fun z => (.inl () : Sum Unit Bool) = o267) (.x 2) ?_ ?_
      · refine awp_loop (fun y : Nat × Int × Nat => ⟨[(7, .b true), (8, .box (402, 4) 0), (13, .own (1000001, 11) l147.length), (23, .i y.2.1)], [(.a (1000001, 11), .sl 1 true (l147.map row1) [.i 0]), (.c (402, 4) 0, .i r73), (.c (402, 4) 1, .sl 3 false (r74.map row3) [.i 0, .i 0, .i 0]), (.c (402, 4) 2, .i r75), (.c (402, 4) 3, .i r76), (.c (402, 4) 4, .sl 2 false (r77.map row2) [.i 0, .i 0])], y.2.2⟩) (fun y => D_putloglaw24_MonitorExact_L7 N l147 r76 r77 r75 y.1 y.2.1 = some o267) (fun y => y.1) (N, 0, c144 + 1 + 1) hL13 ?_ ?_
        · refine Le.of ?_ ?_ (by first | exact Nat.le_refl _ | (simp; omega) | simp) <;> first | (simp only [go_sem, seval, hr77, he79, he83]; done) | (simp only [go_sem, seval, hr77, he79, he83, List.map_append, List.map_cons, List.map_nil, List.map_set, List.map_take, List.map_drop]; done) | (simp [hr77, he79, he83, List.map_append, List.map_set]; done)
        · rintro ⟨n, i234, c233⟩ hB14
          try simp only at hB14
          obtain _ | n := n
          · exact absurd hB14 (by simp [D_putloglaw24_MonitorExact_L7])
          rw [D_putloglaw24_MonitorExact_L7] at hB14
          repeat' (first
 | (with_reducible (first | apply awp_sr5 | apply awp_r5 | apply awp_sd | apply awp_d | apply inlR_n5 | apply inlR_r5); (· (first | exact Ctx.fn_ok hS | exact Ctx.rd_ok hS | assumption | exact True.intro)); iterate 2 (· (simp only [go_sem, seval, hr77, he79, he83] <;> eq_refl)))
 | with_reducible (first | apply awp_scp | apply awp_sn | apply awp_nop | apply awp_ret | apply awp_exit | apply awp_block | apply awp_seq | apply seqK_n | apply seqK_r | apply seqK_x | apply blkK_n | apply blkK_r | apply blkK_x)
 | (with_reducible apply blkK_y; (· first | rfl | decide))
 | (with_reducible apply cutK_o; (· simp))
 | with_reducible (first | apply backK_x | apply backK_r | apply asgK_n | apply rngK_x | apply rngK_r | apply True.intro | apply And.intro True.intro True.intro)
 | (fail_if_success with_reducible apply K_id); (fail_if_success with_reducible apply awp_id); first | omega | assumption | (refine And.intro ?_ ?_) | (intro hg; simp_all; done) | grind)
          refine awp_cb (B' := decide (i234 < (l147.length : Int))) (by simp only [go_sem, seval, hr77, he79, he83] <;> eq_refl) (by first | rfl | (simp; done) | grind) (fun hc15 => ?_) (fun hc15 => ?_)
          · rw [hc15, cond_true] at hB14
            try simp only [gd_some, Option.bind_eq_some_iff] at hB14
            obtain ⟨o262, hL16, hB14⟩ := hB14
            repeat' (first
 | (with_reducible (first | apply awp_sr5 | apply awp_r5 | apply awp_sd | apply awp_d | apply inlR_n5 | apply inlR_r5); (· (first | exact Ctx.fn_ok hS | exact Ctx.rd_ok hS | assumption | exact True.intro)); iterate 2 (· (simp only [go_sem, seval, hr77, he79, he83] <;> eq_refl)))
 | with_reducible (first | apply awp_scp | apply awp_sn | apply awp_nop | apply awp_ret | apply awp_exit | apply awp_block | apply awp_seq | apply seqK_n | apply seqK_r | apply seqK_x | apply blkK_n | apply blkK_r | apply blkK_x)
 | (with_reducible apply blkK_y; (· first | rfl | decide))
 | (with_reducible apply cutK_o; (· simp))
 | with_reducible (first | apply backK_x | apply backK_r | apply asgK_n | apply rngK_x | apply rngK_r | apply True.intro | apply And.intro True.intro True.intro)
 | (fail_if_success with_reducible apply K_id); (fail_if_success with_reducible apply awp_id); first | omega | assumption | (refine And.intro ?_ ?_) | (intro hg; simp_all; done) | grind)
            refine awp_cut (fun z : Nat => ⟨[(7, .b true), (8, .box (402, 4) 0), (13, .own (1000001, 11) l147.length), (23, .i i234)], [(.a (1000001, 11), .sl 1 true (l147.map row1) [.i 0]), (.c (402, 4) 0, .i r73), (.c (402, 4) 1, .sl 3 false (r74.map row3) [.i 0, .i 0, .i 0]), (.c (402, 4) 2, .i r75), (.c (402, 4) 3, .i r76), (.c (402, 4) 4, .sl 2 false (r77.map row2) [.i 0, .i 0])], z⟩) (fun z => (.inl () : Sum Unit Bool) = o262) (.x 4) ?_ ?_
            · refine awp_loop (fun y : Nat × Int × Nat => ⟨[(7, .b true), (8, .box (402, 4) 0), (13, .own (1000001, 11) l147.length), (23, .i i234), (24, .i y.2.1)], [(.a (1000001, 11), .sl 1 true (l147.map row1) [.i 0]), (.c (402, 4) 0, .i r73), (.c (402, 4) 1, .sl 3 false (r74.map row3) [.i 0, .i 0, .i 0]), (.c (402, 4) 2, .i r75), (.c (402, 4) 3, .i r76), (.c (402, 4) 4, .sl 2 false (r77.map row2) [.i 0, .i 0])], y.2.2⟩) (fun y => D_putloglaw24_MonitorExact_L9 N l147 i234 r76 r77 r75 y.1 y.2.1 = some o262) (fun y => y.1) (N, 0, c233 + 1 + 1) hL16 ?_ ?_
              · refine Le.of ?_ ?_ (by first | exact Nat.le_refl _ | (simp; omega) | simp) <;> first | (simp only [go_sem, seval, hr77, he79, he83]; done) | (simp only [go_sem, seval, hr77, he79, he83, List.map_append, List.map_cons, List.map_nil, List.map_set, List.map_take, List.map_drop]; done) | (simp [hr77, he79, he83, List.map_append, List.map_set]; done)
              · rintro ⟨n, k247, c246⟩ hB17
                try simp only at hB17
                obtain _ | n := n
                · exact absurd hB17 (by simp [D_putloglaw24_MonitorExact_L9])
                rw [D_putloglaw24_MonitorExact_L9] at hB17
                repeat' (first
 | (with_reducible (first | apply awp_sr5 | apply awp_r5 | apply awp_sd | apply awp_d | apply inlR_n5 | apply inlR_r5); (· (first | exact Ctx.fn_ok hS | exact Ctx.rd_ok hS | assumption | exact True.intro)); iterate 2 (· (simp only [go_sem, seval, hr77, he79, he83] <;> eq_refl)))
 | with_reducible (first | apply awp_scp | apply awp_sn | apply awp_nop | apply awp_ret | apply awp_exit | apply awp_block | apply awp_seq | apply seqK_n | apply seqK_r | apply seqK_x | apply blkK_n | apply blkK_r | apply blkK_x)
 | (with_reducible apply blkK_y; (· first | rfl | decide))
 | (with_reducible apply cutK_o; (· simp))
 | with_reducible (first | apply backK_x | apply backK_r | apply asgK_n | apply rngK_x | apply rngK_r | apply True.intro | apply And.intro True.intro True.intro)
 | (fail_if_success with_reducible apply K_id); (fail_if_success with_reducible apply awp_id); first | omega | assumption | (refine And.intro ?_ ?_) | (intro hg; simp_all; done) | grind)
                refine awp_cb (B' := decide (k247 < (l147.length : Int))) (by simp only [go_sem, seval, hr77, he79, he83] <;> eq_refl) (by first | rfl | (simp; done) | grind) (fun hc18 => ?_) (fun hc18 => ?_)
                · rw [hc18, cond_true] at hB17
                  try simp only [gd_some, Option.bind_eq_some_iff] at hB17
                  obtain ⟨x248, hn248, x250, hn250, hv19, hv20, hv21, ⟨x252, x253⟩, hn253, hB17⟩ := hB17
                  have hx248 : l147.getD i234.toNat 0 = x248 := ixs hn248 _
                  have hb248 := (nth_some hn248).1
                  have hx250 : l147.getD k247.toNat 0 = x250 := ixs hn250 _
                  have hb250 := (nth_some hn250).1
                  simp only [I64] at hv19
                  simp only [I64] at hv20
                  simp only [I64] at hv21
                  have hx253 : r77.getD i234.toNat (0, 0) = (x252, x253) := ixs hn253 _
                  have hb253 := (nth_some hn253).1
                  try simp only [gd_some, Option.bind_eq_some_iff] at hB17
                  obtain ⟨⟨x255, x256⟩, hn256, hB17⟩ := hB17
                  have hx256 : r77.getD k247.toNat (0, 0) = (x255, x256) := ixs hn256 _
                  have hb256 := (nth_some hn256).1
                  try simp only [gd_some, Option.bind_eq_some_iff] at hB17
                  obtain ⟨hv22, hv23, hv24, hB17⟩ := hB17
                  simp only [I64] at hv22
                  simp only [I64] at hv23
                  simp only [I64] at hv24
                  repeat' (first
 | (with_reducible (first | apply awp_sr5 | apply awp_r5 | apply awp_sd | apply awp_d | apply inlR_n5 | apply inlR_r5); (· (first | exact Ctx.fn_ok hS | exact Ctx.rd_ok hS | assumption | exact True.intro)); iterate 2 (· (simp only [go_sem, seval, hr77, he79, he83, hx248, hx250, hx253, hx256] <;> eq_refl)))
 | with_reducible (first | apply awp_scp | apply awp_sn | apply awp_nop | apply awp_ret | apply awp_exit | apply awp_block | apply awp_seq | apply seqK_n | apply seqK_r | apply seqK_x | apply blkK_n | apply blkK_r | apply blkK_x)
 | (with_reducible apply blkK_y; (· first | rfl | decide))
 | (with_reducible apply cutK_o; (· simp))
 | with_reducible (first | apply backK_x | apply backK_r | apply asgK_n | apply rngK_x | apply rngK_r | apply True.intro | apply And.intro True.intro True.intro)
 | (fail_if_success with_reducible apply K_id); (fail_if_success with_reducible apply awp_id); first | omega | assumption | (refine And.intro ?_ ?_) | (intro hg; simp_all; done) | grind)
                  refine awp_cb (B' := decide ((2 * r75) + (r76 * (max (x248 - x250) (x250 - x248))) < x253 - x256)) (by simp only [go_sem, seval, hr77, he79, he83, hx248, hx250, hx253, hx256] <;> eq_refl) (by first | rfl | (simp; done) | grind) (fun hc25 => ?_) (fun hc25 => ?_)
                  · rw [hc25, cond_true] at hB17
                    obtain rfl := Option.some.inj hB17
                    try simp only at hB14
                    obtain rfl := Option.some.inj hB14
                    try simp only at h
                    obtain rfl := Option.some.inj h
                    repeat' (first
 | (with_reducible (first | apply awp_sr5 | apply awp_r5 | apply awp_sd | apply awp_d | apply inlR_n5 | apply inlR_r5); (· (first | exact Ctx.fn_ok hS | exact Ctx.rd_ok hS | assumption | exact True.intro)); iterate 2 (· (simp only [go_sem, seval, hr77, he79, he83, hx248, hx250, hx253, hx256] <;> eq_refl)))
 | with_reducible (first | apply awp_scp | apply awp_sn | apply awp_nop | apply awp_ret | apply awp_exit | apply awp_block | apply awp_seq | apply seqK_n | apply seqK_r | apply seqK_x | apply blkK_n | apply blkK_r | apply blkK_x)
 | (with_reducible apply blkK_y; (· first | rfl | decide))
 | (with_reducible apply cutK_o; (· simp))
 | with_reducible (first | apply backK_x | apply backK_r | apply asgK_n | apply rngK_x | apply rngK_r | apply True.intro | apply And.intro True.intro True.intro)
 | (fail_if_success with_reducible apply K_id); (fail_if_success with_reducible apply awp_id); first | omega | assumption | (refine And.intro ?_ ?_) | (intro hg; simp_all; done) | grind)
                    first | refine endK_r (by simp only [go_sem, seval, hr77, he79, he83, hx248, hx250, hx253, hx256] <;> eq_refl) (by simp only [go_sem, seval, hr77, he79, he83, hx248, hx250, hx253, hx256]) (by simp only [go_sem, seval, hr77, he79, he83, hx248, hx250, hx253, hx256]) ?_ rfl | refine endK_n (by simp only [go_sem, seval, hr77, he79, he83, hx248, hx250, hx253, hx256] <;> eq_refl) (by simp only [go_sem, seval, hr77, he79, he83, hx248, hx250, hx253, hx256]) (by simp only [go_sem, seval, hr77, he79, he83, hx248, hx250, hx253, hx256]) ?_ rfl
                    first | (simp only [go_sem, seval, hr77, he79, he83, hx248, hx250, hx253, hx256]; done) | (simp only [go_sem, seval, hr77, he79, he83, hx248, hx250, hx253, hx256, List.map_append, List.map_cons, List.map_nil, List.map_set, List.map_take, List.map_drop]; done) | (simp [hr77, he79, he83, hx248, hx250, hx253, hx256]; done)
                  · rw [hc25, cond_false] at hB17
                    try simp only [gd_some, Option.bind_eq_some_iff] at hB17
                    obtain ⟨hv26, hB17⟩ := hB17
                    simp only [I64] at hv26
                    repeat' (first
 | (with_reducible (first | apply awp_sr5 | apply awp_r5 | apply awp_sd | apply awp_d | apply inlR_n5 | apply inlR_r5); (· (first | exact Ctx.fn_ok hS | exact Ctx.rd_ok hS | assumption | exact True.intro)); iterate 2 (· (simp only [go_sem, seval, hr77, he79, he83, hx248, hx250, hx253, hx256] <;> eq_refl)))
 | with_reducible (first | apply awp_scp | apply awp_sn | apply awp_nop | apply awp_ret | apply awp_exit | apply awp_block | apply awp_seq | apply seqK_n | apply seqK_r | apply seqK_x | apply blkK_n | apply blkK_r | apply blkK_x)
 | (with_reducible apply blkK_y; (· first | rfl | decide))
 | (with_reducible apply cutK_o; (· simp))
 | with_reducible (first | apply backK_x | apply backK_r | apply asgK_n | apply rngK_x | apply rngK_r | apply True.intro | apply And.intro True.intro True.intro)
 | (fail_if_success with_reducible apply K_id); (fail_if_success with_reducible apply awp_id); first | omega | assumption | (refine And.intro ?_ ?_) | (intro hg; simp_all; done) | grind)
                    refine backK_n (n, k247 + 1, c246 + 1 + 1 + 1 + 1) hB17 (Nat.lt_succ_self _) ?_
                    refine Le.of ?_ ?_ (by first | exact Nat.le_refl _ | (simp; omega) | simp) <;> first | (simp only [go_sem, seval, hr77, he79, he83, hx248, hx250, hx253, hx256]; done) | (simp only [go_sem, seval, hr77, he79, he83, hx248, hx250, hx253, hx256, List.map_append, List.map_cons, List.map_nil, List.map_set, List.map_take, List.map_drop]; done) | (simp [hr77, he79, he83, hx248, hx250, hx253, hx256, List.map_append, List.map_set]; done)
                · rw [hc18, cond_false] at hB17
                  repeat' (first
 | (with_reducible (first | apply awp_sr5 | apply awp_r5 | apply awp_sd | apply awp_d | apply inlR_n5 | apply inlR_r5); (· (first | exact Ctx.fn_ok hS | exact Ctx.rd_ok hS | assumption | exact True.intro)); iterate 2 (· (simp only [go_sem, seval, hr77, he79, he83] <;> eq_refl)))
 | with_reducible (first | apply awp_scp | apply awp_sn | apply awp_nop | apply awp_ret | apply awp_exit | apply awp_block | apply awp_seq | apply seqK_n | apply seqK_r | apply seqK_x | apply blkK_n | apply blkK_r | apply blkK_x)
 | (with_reducible apply blkK_y; (· first | rfl | decide))
 | (with_reducible apply cutK_o; (· simp))
 | with_reducible (first | apply backK_x | apply backK_r | apply asgK_n | apply rngK_x | apply rngK_r | apply True.intro | apply And.intro True.intro True.intro)
 | (fail_if_success with_reducible apply K_id); (fail_if_success with_reducible apply awp_id); first | omega | assumption | (refine And.intro ?_ ?_) | (intro hg; simp_all; done) | grind)
                  refine cutK_h (c246 + 1) (Option.some.inj hB17) ?_
                  refine Le.of ?_ ?_ (by first | exact Nat.le_refl _ | (simp; omega) | simp) <;> first | (simp only [go_sem, seval, hr77, he79, he83]; done) | (simp only [go_sem, seval, hr77, he79, he83, List.map_append, List.map_cons, List.map_nil, List.map_set, List.map_take, List.map_drop]; done) | (simp [hr77, he79, he83, List.map_append, List.map_set]; done)
            · rintro c260 hz27
              subst hz27
              try simp only at hB14
              try simp only [gd_some, Option.bind_eq_some_iff] at hB14
              obtain ⟨hv28, hB14⟩ := hB14
              simp only [I64] at hv28
              repeat' (first
 | (with_reducible (first | apply awp_sr5 | apply awp_r5 | apply awp_sd | apply awp_d | apply inlR_n5 | apply inlR_r5); (· (first | exact Ctx.fn_ok hS | exact Ctx.rd_ok hS | assumption | exact True.intro)); iterate 2 (· (simp only [go_sem, seval, hr77, he79, he83] <;> eq_refl)))
 | with_reducible (first | apply awp_scp | apply awp_sn | apply awp_nop | apply awp_ret | apply awp_exit | apply awp_block | apply awp_seq | apply seqK_n | apply seqK_r | apply seqK_x | apply blkK_n | apply blkK_r | apply blkK_x)
 | (with_reducible apply blkK_y; (· first | rfl | decide))
 | (with_reducible apply cutK_o; (· simp))
 | with_reducible (first | apply backK_x | apply backK_r | apply asgK_n | apply rngK_x | apply rngK_r | apply True.intro | apply And.intro True.intro True.intro)
 | (fail_if_success with_reducible apply K_id); (fail_if_success with_reducible apply awp_id); first | omega | assumption | (refine And.intro ?_ ?_) | (intro hg; simp_all; done) | grind)
              refine backK_n (n, i234 + 1, c260 + 1) hB14 (Nat.lt_succ_self _) ?_
              refine Le.of ?_ ?_ (by first | exact Nat.le_refl _ | (simp; omega) | simp) <;> first | (simp only [go_sem, seval, hr77, he79, he83]; done) | (simp only [go_sem, seval, hr77, he79, he83, List.map_append, List.map_cons, List.map_nil, List.map_set, List.map_take, List.map_drop]; done) | (simp [hr77, he79, he83, List.map_append, List.map_set]; done)
          · rw [hc15, cond_false] at hB14
            repeat' (first
 | (with_reducible (first | apply awp_sr5 | apply awp_r5 | apply awp_sd | apply awp_d | apply inlR_n5 | apply inlR_r5); (· (first | exact Ctx.fn_ok hS | exact Ctx.rd_ok hS | assumption | exact True.intro)); iterate 2 (· (simp only [go_sem, seval, hr77, he79, he83] <;> eq_refl)))
 | with_reducible (first | apply awp_scp | apply awp_sn | apply awp_nop | apply awp_ret | apply awp_exit | apply awp_block | apply awp_seq | apply seqK_n | apply seqK_r | apply seqK_x | apply blkK_n | apply blkK_r | apply blkK_x)
 | (with_reducible apply blkK_y; (· first | rfl | decide))
 | (with_reducible apply cutK_o; (· simp))
 | with_reducible (first | apply backK_x | apply backK_r | apply asgK_n | apply rngK_x | apply rngK_r | apply True.intro | apply And.intro True.intro True.intro)
 | (fail_if_success with_reducible apply K_id); (fail_if_success with_reducible apply awp_id); first | omega | assumption | (refine And.intro ?_ ?_) | (intro hg; simp_all; done) | grind)
            refine cutK_h (c233 + 1) (Option.some.inj hB14) ?_
            refine Le.of ?_ ?_ (by first | exact Nat.le_refl _ | (simp; omega) | simp) <;> first | (simp only [go_sem, seval, hr77, he79, he83]; done) | (simp only [go_sem, seval, hr77, he79, he83, List.map_append, List.map_cons, List.map_nil, List.map_set, List.map_take, List.map_drop]; done) | (simp [hr77, he79, he83, List.map_append, List.map_set]; done)
      · rintro c265 hz29
        subst hz29
        try simp only at h
        obtain rfl := Option.some.inj h
        repeat' (first
 | (with_reducible (first | apply awp_sr5 | apply awp_r5 | apply awp_sd | apply awp_d | apply inlR_n5 | apply inlR_r5); (· (first | exact Ctx.fn_ok hS | exact Ctx.rd_ok hS | assumption | exact True.intro)); iterate 2 (· (simp only [go_sem, seval, hr77, he79, he83] <;> eq_refl)))
 | with_reducible (first | apply awp_scp | apply awp_sn | apply awp_nop | apply awp_ret | apply awp_exit | apply awp_block | apply awp_seq | apply seqK_n | apply seqK_r | apply seqK_x | apply blkK_n | apply blkK_r | apply blkK_x)
 | (with_reducible apply blkK_y; (· first | rfl | decide))
 | (with_reducible apply cutK_o; (· simp))
 | with_reducible (first | apply backK_x | apply backK_r | apply asgK_n | apply rngK_x | apply rngK_r | apply True.intro | apply And.intro True.intro True.intro)
 | (fail_if_success with_reducible apply K_id); (fail_if_success with_reducible apply awp_id); first | omega | assumption | (refine And.intro ?_ ?_) | (intro hg; simp_all; done) | grind)
        first | refine endK_r (by simp only [go_sem, seval, hr77, he79, he83] <;> eq_refl) (by simp only [go_sem, seval, hr77, he79, he83]) (by simp only [go_sem, seval, hr77, he79, he83]) ?_ rfl | refine endK_n (by simp only [go_sem, seval, hr77, he79, he83] <;> eq_refl) (by simp only [go_sem, seval, hr77, he79, he83]) (by simp only [go_sem, seval, hr77, he79, he83]) ?_ rfl
        first | (simp only [go_sem, seval, hr77, he79, he83]; done) | (simp only [go_sem, seval, hr77, he79, he83, List.map_append, List.map_cons, List.map_nil, List.map_set, List.map_take, List.map_drop]; done) | (simp [hr77, he79, he83]; done)
    · rw [hc12, cond_false] at h
      try simp only [gd_some, Option.bind_eq_some_iff] at h
      obtain ⟨hv30, hv31, hv32, hv33, r268, hr268, hv34, h⟩ := h
      simp only [I64] at hv30
      simp only [I64] at hv31
      have he268 := Option.some.inj hr268
      simp only [I64] at hv34
      repeat' (first
 | (with_reducible (first | apply awp_sr5 | apply awp_r5 | apply awp_sd | apply awp_d | apply inlR_n5 | apply inlR_r5); (· (first | exact Ctx.fn_ok hS | exact Ctx.rd_ok hS | assumption | exact True.intro)); iterate 2 (· (simp only [go_sem, seval, hr77, he79, he83, he268] <;> eq_refl)))
 | with_reducible (first | apply awp_scp | apply awp_sn | apply awp_nop | apply awp_ret | apply awp_exit | apply awp_block | apply awp_seq | apply seqK_n | apply seqK_r | apply seqK_x | apply blkK_n | apply blkK_r | apply blkK_x)
 | (with_reducible apply blkK_y; (· first | rfl | decide))
 | (with_reducible apply cutK_o; (· simp))
 | with_reducible (first | apply backK_x | apply backK_r | apply asgK_n | apply rngK_x | apply rngK_r | apply True.intro | apply And.intro True.intro True.intro)
 | (fail_if_success with_reducible apply K_id); (fail_if_success with_reducible apply awp_id); first | omega | assumption | (refine And.intro ?_ ?_) | (intro hg; simp_all; done) | grind)
      refine awp_claimEk 1000003 27 1 [.i 0] (by show (27 : Nat) < 284; omega) (by omega) (by simp only [go_sem, seval, hr77, he79, he83, he268] <;> eq_refl) ?_
      try simp only [gd_some, Option.bind_eq_some_iff] at h
      obtain ⟨o326, hL35, h⟩ := h
      repeat' (first
 | (with_reducible (first | apply awp_sr5 | apply awp_r5 | apply awp_sd | apply awp_d | apply inlR_n5 | apply inlR_r5); (· (first | exact Ctx.fn_ok hS | exact Ctx.rd_ok hS | assumption | exact True.intro)); iterate 2 (· (simp only [go_sem, seval, hr77, he79, he83, he268] <;> eq_refl)))
 | with_reducible (first | apply awp_scp | apply awp_sn | apply awp_nop | apply awp_ret | apply awp_exit | apply awp_block | apply awp_seq | apply seqK_n | apply seqK_r | apply seqK_x | apply blkK_n | apply blkK_r | apply blkK_x)
 | (with_reducible apply blkK_y; (· first | rfl | decide))
 | (with_reducible apply cutK_o; (· simp))
 | with_reducible (first | apply backK_x | apply backK_r | apply asgK_n | apply rngK_x | apply rngK_r | apply True.intro | apply And.intro True.intro True.intro)
 | (fail_if_success with_reducible apply K_id); (fail_if_success with_reducible apply awp_id); first | omega | assumption | (refine And.intro ?_ ?_) | (intro hg; simp_all; done) | grind)
      refine awp_cut (fun z : Nat => ⟨[(10, .i r81), (11, .i r82)], [], z⟩) (fun z => (.inl () : Sum Unit Bool) = o326) (.x 6) ?_ ?_
      · refine awp_loop (fun y : Nat × Int × (List Int) × Nat => ⟨[(8, .box (402, 4) 0), (9, .i r79), (10, .i r81), (11, .i r82), (13, .own (1000001, 11) l147.length), (14, .own (1000002, 12) l146.length), (26, .i (r81 + r268)), (27, .own (1000003, c144 + 1 + 1 + 1 + 1 + 1) y.2.2.1.length), (28, .i y.2.1)], [(.a (1000003, c144 + 1 + 1 + 1 + 1 + 1), .sl 1 true (y.2.2.1.map row1) [.i 0]), (.a (1000002, 12), .sl 1 true (l146.map row1) [.i 0]), (.a (1000001, 11), .sl 1 true (l147.map row1) [.i 0]), (.c (402, 4) 0, .i r73), (.c (402, 4) 1, .sl 3 false (r74.map row3) [.i 0, .i 0, .i 0]), (.c (402, 4) 2, .i r75), (.c (402, 4) 3, .i r76), (.c (402, 4) 4, .sl 2 false (r77.map row2) [.i 0, .i 0])], y.2.2.2⟩) (fun y => D_putloglaw24_MonitorExact_L12 N l147 r79 r76 l146 r81 r268 r77 r75 y.1 y.2.1 y.2.2.1 = some o326) (fun y => y.1) (N, 0, [], c144 + 1 + 1 + 1 + 1 + 1) hL35 ?_ ?_
        · refine Le.of ?_ ?_ (by first | exact Nat.le_refl _ | (simp; omega) | simp) <;> first | (simp only [go_sem, seval, hr77, he79, he83, he268]; done) | (simp only [go_sem, seval, hr77, he79, he83, he268, List.map_append, List.map_cons, List.map_nil, List.map_set, List.map_take, List.map_drop]; done) | (simp [hr77, he79, he83, he268, List.map_append, List.map_set]; done)
        · rintro ⟨n, i296, l297, c295⟩ hB36
          try simp only at hB36
          obtain _ | n := n
          · exact absurd hB36 (by simp [D_putloglaw24_MonitorExact_L12])
          rw [D_putloglaw24_MonitorExact_L12] at hB36
          repeat' (first
 | (with_reducible (first | apply awp_sr5 | apply awp_r5 | apply awp_sd | apply awp_d | apply inlR_n5 | apply inlR_r5); (· (first | exact Ctx.fn_ok hS | exact Ctx.rd_ok hS | assumption | exact True.intro)); iterate 2 (· (simp only [go_sem, seval, hr77, he79, he83, he268] <;> eq_refl)))
 | with_reducible (first | apply awp_scp | apply awp_sn | apply awp_nop | apply awp_ret | apply awp_exit | apply awp_block | apply awp_seq | apply seqK_n | apply seqK_r | apply seqK_x | apply blkK_n | apply blkK_r | apply blkK_x)
 | (with_reducible apply blkK_y; (· first | rfl | decide))
 | (with_reducible apply cutK_o; (· simp))
 | with_reducible (first | apply backK_x | apply backK_r | apply asgK_n | apply rngK_x | apply rngK_r | apply True.intro | apply And.intro True.intro True.intro)
 | (fail_if_success with_reducible apply K_id); (fail_if_success with_reducible apply awp_id); first | omega | assumption | (refine And.intro ?_ ?_) | (intro hg; simp_all; done) | grind)
          refine awp_cb (B' := decide (i296 < (l147.length : Int))) (by simp only [go_sem, seval, hr77, he79, he83, he268] <;> eq_refl) (by first | rfl | (simp; done) | grind) (fun hc37 => ?_) (fun hc37 => ?_)
          · rw [hc37, cond_true] at hB36
            try simp only [gd_some, Option.bind_eq_some_iff] at hB36
            obtain ⟨x298, hn298, hv38, hv39, hv40, x300, hn300, hv41, ⟨x302, x303⟩, hn303, hB36⟩ := hB36
            have hx298 : l147.getD i296.toNat 0 = x298 := ixs hn298 _
            have hb298 := (nth_some hn298).1
            simp only [I64] at hv38
            simp only [I64] at hv39
            simp only [I64] at hv40
            have hx300 : l146.getD i296.toNat 0 = x300 := ixs hn300 _
            have hb300 := (nth_some hn300).1
            simp only [I64] at hv41
            have hx303 : r77.getD i296.toNat (0, 0) = (x302, x303) := ixs hn303 _
            have hb303 := (nth_some hn303).1
            try simp only [gd_some, Option.bind_eq_some_iff] at hB36
            obtain ⟨hv42, hv43, hv44, hv45, hB36⟩ := hB36
            simp only [I64] at hv42
            simp only [I64] at hv43
            simp only [I64] at hv44
            simp only [I64] at hv45
            repeat' (first
 | (with_reducible (first | apply awp_sr5 | apply awp_r5 | apply awp_sd | apply awp_d | apply inlR_n5 | apply inlR_r5); (· (first | exact Ctx.fn_ok hS | exact Ctx.rd_ok hS | assumption | exact True.intro)); iterate 2 (· (simp only [go_sem, seval, hr77, he79, he83, he268, hx298, hx300, hx303] <;> eq_refl)))
 | with_reducible (first | apply awp_scp | apply awp_sn | apply awp_nop | apply awp_ret | apply awp_exit | apply awp_block | apply awp_seq | apply seqK_n | apply seqK_r | apply seqK_x | apply blkK_n | apply blkK_r | apply blkK_x)
 | (with_reducible apply blkK_y; (· first | rfl | decide))
 | (with_reducible apply cutK_o; (· simp))
 | with_reducible (first | apply backK_x | apply backK_r | apply asgK_n | apply rngK_x | apply rngK_r | apply True.intro | apply And.intro True.intro True.intro)
 | (fail_if_success with_reducible apply K_id); (fail_if_success with_reducible apply awp_id); first | omega | assumption | (refine And.intro ?_ ?_) | (intro hg; simp_all; done) | grind)
            refine awp_cb (B' := (((((decide (r75 < (max x300 ((r81 + r268) - (r76 * (max (x298 - r79) (r79 - x298))))) - x303)) || (decide (r75 < x303 - (max x300 ((r81 + r268) - (r76 * (max (x298 - r79) (r79 - x298)))))))) || (decide (r76 * (max (x298 - r79) (r79 - x298)) < (max x300 ((r81 + r268) - (r76 * (max (x298 - r79) (r79 - x298))))) - (r81 + r268)))) || (decide (r76 * (max (x298 - r79) (r79 - x298)) < (r81 + r268) - (max x300 ((r81 + r268) - (r76 * (max (x298 - r79) (r79 - x298)))))))) || (decide (max x300 ((r81 + r268) - (r76 * (max (x298 - r79) (r79 - x298)))) < (-1000000)))) || (decide (1000000 < max x300 ((r81 + r268) - (r76 * (max (x298 - r79) (r79 - x298))))))) (by simp only [go_sem, seval, hr77, he79, he83, he268, hx298, hx300, hx303] <;> eq_refl) (by first | rfl | (simp; done) | grind) (fun hc46 => ?_) (fun hc46 => ?_)
            · rw [hc46, cond_true] at hB36
              obtain rfl := Option.some.inj hB36
              try simp only at h
              obtain rfl := Option.some.inj h
              repeat' (first
 | (with_reducible (first | apply awp_sr5 | apply awp_r5 | apply awp_sd | apply awp_d | apply inlR_n5 | apply inlR_r5); (· (first | exact Ctx.fn_ok hS | exact Ctx.rd_ok hS | assumption | exact True.intro)); iterate 2 (· (simp only [go_sem, seval, hr77, he79, he83, he268, hx298, hx300, hx303] <;> eq_refl)))
 | with_reducible (first | apply awp_scp | apply awp_sn | apply awp_nop | apply awp_ret | apply awp_exit | apply awp_block | apply awp_seq | apply seqK_n | apply seqK_r | apply seqK_x | apply blkK_n | apply blkK_r | apply blkK_x)
 | (with_reducible apply blkK_y; (· first | rfl | decide))
 | (with_reducible apply cutK_o; (· simp))
 | with_reducible (first | apply backK_x | apply backK_r | apply asgK_n | apply rngK_x | apply rngK_r | apply True.intro | apply And.intro True.intro True.intro)
 | (fail_if_success with_reducible apply K_id); (fail_if_success with_reducible apply awp_id); first | omega | assumption | (refine And.intro ?_ ?_) | (intro hg; simp_all; done) | grind)
              first | refine endK_r (by simp only [go_sem, seval, hr77, he79, he83, he268, hx298, hx300, hx303] <;> eq_refl) (by simp only [go_sem, seval, hr77, he79, he83, he268, hx298, hx300, hx303]) (by simp only [go_sem, seval, hr77, he79, he83, he268, hx298, hx300, hx303]) ?_ rfl | refine endK_n (by simp only [go_sem, seval, hr77, he79, he83, he268, hx298, hx300, hx303] <;> eq_refl) (by simp only [go_sem, seval, hr77, he79, he83, he268, hx298, hx300, hx303]) (by simp only [go_sem, seval, hr77, he79, he83, he268, hx298, hx300, hx303]) ?_ rfl
              first | (simp only [go_sem, seval, hr77, he79, he83, he268, hx298, hx300, hx303]; done) | (simp only [go_sem, seval, hr77, he79, he83, he268, hx298, hx300, hx303, List.map_append, List.map_cons, List.map_nil, List.map_set, List.map_take, List.map_drop]; done) | (simp [hr77, he79, he83, he268, hx298, hx300, hx303]; done)
            · rw [hc46, cond_false] at hB36
              try simp only [gd_some, Option.bind_eq_some_iff] at hB36
              obtain ⟨hv47, hB36⟩ := hB36
              try simp only [gd_some, Option.bind_eq_some_iff] at hB36
              obtain ⟨o320, hL48, hB36⟩ := hB36
              repeat' (first
 | (with_reducible (first | apply awp_sr5 | apply awp_r5 | apply awp_sd | apply awp_d | apply inlR_n5 | apply inlR_r5); (· (first | exact Ctx.fn_ok hS | exact Ctx.rd_ok hS | assumption | exact True.intro)); iterate 2 (· (simp only [go_sem, seval, hr77, he79, he83, he268, hx298, hx300, hx303] <;> eq_refl)))
 | with_reducible (first | apply awp_scp | apply awp_sn | apply awp_nop | apply awp_ret | apply awp_exit | apply awp_block | apply awp_seq | apply seqK_n | apply seqK_r | apply seqK_x | apply blkK_n | apply blkK_r | apply blkK_x)
 | (with_reducible apply blkK_y; (· first | rfl | decide))
 | (with_reducible apply cutK_o; (· simp))
 | with_reducible (first | apply backK_x | apply backK_r | apply asgK_n | apply rngK_x | apply rngK_r | apply True.intro | apply And.intro True.intro True.intro)
 | (fail_if_success with_reducible apply K_id); (fail_if_success with_reducible apply awp_id); first | omega | assumption | (refine And.intro ?_ ?_) | (intro hg; simp_all; done) | grind)
              refine awp_cut (fun z : Nat => ⟨[(8, .box (402, 4) 0), (9, .i r79), (10, .i r81), (11, .i r82), (13, .own (1000001, 11) l147.length), (14, .own (1000002, 12) l146.length), (26, .i (r81 + r268)), (27, .own (1000003, c144 + 1 + 1 + 1 + 1 + 1) (l297 ++ [max x300 ((r81 + r268) - (r76 * (max (x298 - r79) (r79 - x298))))]).length), (28, .i i296)], [(.a (1000003, c144 + 1 + 1 + 1 + 1 + 1), .sl 1 true ((l297 ++ [max x300 ((r81 + r268) - (r76 * (max (x298 - r79) (r79 - x298))))]).map row1) [.i 0]), (.a (1000002, 12), .sl 1 true (l146.map row1) [.i 0]), (.a (1000001, 11), .sl 1 true (l147.map row1) [.i 0]), (.c (402, 4) 0, .i r73), (.c (402, 4) 1, .sl 3 false (r74.map row3) [.i 0, .i 0, .i 0]), (.c (402, 4) 2, .i r75), (.c (402, 4) 3, .i r76), (.c (402, 4) 4, .sl 2 false (r77.map row2) [.i 0, .i 0])], z⟩) (fun z => (.inl () : Sum Unit Bool) = o320) (.x 8) ?_ ?_
              · refine awp_loop (fun y : Nat × Int × Nat => ⟨[(8, .box (402, 4) 0), (9, .i r79), (10, .i r81), (11, .i r82), (13, .own (1000001, 11) l147.length), (14, .own (1000002, 12) l146.length), (26, .i (r81 + r268)), (27, .own (1000003, c144 + 1 + 1 + 1 + 1 + 1) (l297 ++ [max x300 ((r81 + r268) - (r76 * (max (x298 - r79) (r79 - x298))))]).length), (28, .i i296), (30, .i (max x300 ((r81 + r268) - (r76 * (max (x298 - r79) (r79 - x298)))))), (31, .i y.2.1)], [(.a (1000003, c144 + 1 + 1 + 1 + 1 + 1), .sl 1 true ((l297 ++ [max x300 ((r81 + r268) - (r76 * (max (x298 - r79) (r79 - x298))))]).map row1) [.i 0]), (.a (1000002, 12), .sl 1 true (l146.map row1) [.i 0]), (.a (1000001, 11), .sl 1 true (l147.map row1) [.i 0]), (.c (402, 4) 0, .i r73), (.c (402, 4) 1, .sl 3 false (r74.map row3) [.i 0, .i 0, .i 0]), (.c (402, 4) 2, .i r75), (.c (402, 4) 3, .i r76), (.c (402, 4) 4, .sl 2 false (r77.map row2) [.i 0, .i 0])], y.2.2⟩) (fun y => D_putloglaw24_MonitorExact_L14 N i296 l147 x298 r76 l297 x300 r81 r268 r79 y.1 y.2.1 = some o320) (fun y => y.1) (N, 0, c295 + 1 + 1 + 1 + 1 + 1 + 1) hL48 ?_ ?_
                · refine Le.of ?_ ?_ (by first | exact Nat.le_refl _ | (simp; omega) | simp) <;> first | (simp only [go_sem, seval, hr77, he79, he83, he268, hx298, hx300, hx303]; done) | (simp only [go_sem, seval, hr77, he79, he83, he268, hx298, hx300, hx303, List.map_append, List.map_cons, List.map_nil, List.map_set, List.map_take, List.map_drop]; done) | (simp [hr77, he79, he83, he268, hx298, hx300, hx303, List.map_append, List.map_set]; done)
                · rintro ⟨n, k311, c310⟩ hB49
                  try simp only at hB49
                  obtain _ | n := n
                  · exact absurd hB49 (by simp [D_putloglaw24_MonitorExact_L14])
                  rw [D_putloglaw24_MonitorExact_L14] at hB49
                  repeat' (first
 | (with_reducible (first | apply awp_sr5 | apply awp_r5 | apply awp_sd | apply awp_d | apply inlR_n5 | apply inlR_r5); (· (first | exact Ctx.fn_ok hS | exact Ctx.rd_ok hS | assumption | exact True.intro)); iterate 2 (· (simp only [go_sem, seval, hr77, he79, he83, he268, hx298, hx300, hx303] <;> eq_refl)))
 | with_reducible (first | apply awp_scp | apply awp_sn | apply awp_nop | apply awp_ret | apply awp_exit | apply awp_block | apply awp_seq | apply seqK_n | apply seqK_r | apply seqK_x | apply blkK_n | apply blkK_r | apply blkK_x)
 | (with_reducible apply blkK_y; (· first | rfl | decide))
 | (with_reducible apply cutK_o; (· simp))
 | with_reducible (first | apply backK_x | apply backK_r | apply asgK_n | apply rngK_x | apply rngK_r | apply True.intro | apply And.intro True.intro True.intro)
 | (fail_if_success with_reducible apply K_id); (fail_if_success with_reducible apply awp_id); first | omega | assumption | (refine And.intro ?_ ?_) | (intro hg; simp_all; done) | grind)
                  refine awp_cb (B' := decide (k311 < i296)) (by simp only [go_sem, seval, hr77, he79, he83, he268, hx298, hx300, hx303] <;> eq_refl) (by first | rfl | (simp; done) | grind) (fun hc50 => ?_) (fun hc50 => ?_)
                  · rw [hc50, cond_true] at hB49
                    try simp only [gd_some, Option.bind_eq_some_iff] at hB49
                    obtain ⟨x312, hn312, hv51, hv52, x314, hn314, hv53, hv54, hB49⟩ := hB49
                    have hx312 : l147.getD k311.toNat 0 = x312 := ixs hn312 _
                    have hb312 := (nth_some hn312).1
                    simp only [I64] at hv51
                    simp only [I64] at hv52
                    have hx314 : (l297 ++ [max x300 ((r81 + r268) - (r76 * (max (x298 - r79) (r79 - x298))))]).getD k311.toNat 0 = x314 := ixs hn314 _
                    have hb314 := (nth_some hn314).1
                    simp only [I64] at hv53
                    simp only [I64] at hv54
                    repeat' (first
 | (with_reducible (first | apply awp_sr5 | apply awp_r5 | apply awp_sd | apply awp_d | apply inlR_n5 | apply inlR_r5); (· (first | exact Ctx.fn_ok hS | exact Ctx.rd_ok hS | assumption | exact True.intro)); iterate 2 (· (simp only [go_sem, seval, hr77, he79, he83, he268, hx298, hx300, hx303, hx312, hx314] <;> eq_refl)))
 | with_reducible (first | apply awp_scp | apply awp_sn | apply awp_nop | apply awp_ret | apply awp_exit | apply awp_block | apply awp_seq | apply seqK_n | apply seqK_r | apply seqK_x | apply blkK_n | apply blkK_r | apply blkK_x)
 | (with_reducible apply blkK_y; (· first | rfl | decide))
 | (with_reducible apply cutK_o; (· simp))
 | with_reducible (first | apply backK_x | apply backK_r | apply asgK_n | apply rngK_x | apply rngK_r | apply True.intro | apply And.intro True.intro True.intro)
 | (fail_if_success with_reducible apply K_id); (fail_if_success with_reducible apply awp_id); first | omega | assumption | (refine And.intro ?_ ?_) | (intro hg; simp_all; done) | grind)
                    refine awp_cb (B' := (decide (r76 * (x298 - x312) < (max x300 ((r81 + r268) - (r76 * (max (x298 - r79) (r79 - x298))))) - x314)) || (decide (r76 * (x298 - x312) < x314 - (max x300 ((r81 + r268) - (r76 * (max (x298 - r79) (r79 - x298)))))))) (by simp only [go_sem, seval, hr77, he79, he83, he268, hx298, hx300, hx303, hx312, hx314] <;> eq_refl) (by first | rfl | (simp; done) | grind) (fun hc55 => ?_) (fun hc55 => ?_)
                    · rw [hc55, cond_true] at hB49
                      obtain rfl := Option.some.inj hB49
                      try simp only at hB36
                      obtain rfl := Option.some.inj hB36
                      try simp only at h
                      obtain rfl := Option.some.inj h
                      repeat' (first
 | (with_reducible (first | apply awp_sr5 | apply awp_r5 | apply awp_sd | apply awp_d | apply inlR_n5 | apply inlR_r5); (· (first | exact Ctx.fn_ok hS | exact Ctx.rd_ok hS | assumption | exact True.intro)); iterate 2 (· (simp only [go_sem, seval, hr77, he79, he83, he268, hx298, hx300, hx303, hx312, hx314] <;> eq_refl)))
 | with_reducible (first | apply awp_scp | apply awp_sn | apply awp_nop | apply awp_ret | apply awp_exit | apply awp_block | apply awp_seq | apply seqK_n | apply seqK_r | apply seqK_x | apply blkK_n | apply blkK_r | apply blkK_x)
 | (with_reducible apply blkK_y; (· first | rfl | decide))
 | (with_reducible apply cutK_o; (· simp))
 | with_reducible (first | apply backK_x | apply backK_r | apply asgK_n | apply rngK_x | apply rngK_r | apply True.intro | apply And.intro True.intro True.intro)
 | (fail_if_success with_reducible apply K_id); (fail_if_success with_reducible apply awp_id); first | omega | assumption | (refine And.intro ?_ ?_) | (intro hg; simp_all; done) | grind)
                      first | refine endK_r (by simp only [go_sem, seval, hr77, he79, he83, he268, hx298, hx300, hx303, hx312, hx314] <;> eq_refl) (by simp only [go_sem, seval, hr77, he79, he83, he268, hx298, hx300, hx303, hx312, hx314]) (by simp only [go_sem, seval, hr77, he79, he83, he268, hx298, hx300, hx303, hx312, hx314]) ?_ rfl | refine endK_n (by simp only [go_sem, seval, hr77, he79, he83, he268, hx298, hx300, hx303, hx312, hx314] <;> eq_refl) (by simp only [go_sem, seval, hr77, he79, he83, he268, hx298, hx300, hx303, hx312, hx314]) (by simp only [go_sem, seval, hr77, he79, he83, he268, hx298, hx300, hx303, hx312, hx314]) ?_ rfl
                      first | (simp only [go_sem, seval, hr77, he79, he83, he268, hx298, hx300, hx303, hx312, hx314]; done) | (simp only [go_sem, seval, hr77, he79, he83, he268, hx298, hx300, hx303, hx312, hx314, List.map_append, List.map_cons, List.map_nil, List.map_set, List.map_take, List.map_drop]; done) | (simp [hr77, he79, he83, he268, hx298, hx300, hx303, hx312, hx314]; done)
                    · rw [hc55, cond_false] at hB49
                      try simp only [gd_some, Option.bind_eq_some_iff] at hB49
                      obtain ⟨hv56, hB49⟩ := hB49
                      simp only [I64] at hv56
                      repeat' (first
 | (with_reducible (first | apply awp_sr5 | apply awp_r5 | apply awp_sd | apply awp_d | apply inlR_n5 | apply inlR_r5); (· (first | exact Ctx.fn_ok hS | exact Ctx.rd_ok hS | assumption | exact True.intro)); iterate 2 (· (simp only [go_sem, seval, hr77, he79, he83, he268, hx298, hx300, hx303, hx312, hx314] <;> eq_refl)))
 | with_reducible (first | apply awp_scp | apply awp_sn | apply awp_nop | apply awp_ret | apply awp_exit | apply awp_block | apply awp_seq | apply seqK_n | apply seqK_r | apply seqK_x | apply blkK_n | apply blkK_r | apply blkK_x)
 | (with_reducible apply blkK_y; (· first | rfl | decide))
 | (with_reducible apply cutK_o; (· simp))
 | with_reducible (first | apply backK_x | apply backK_r | apply asgK_n | apply rngK_x | apply rngK_r | apply True.intro | apply And.intro True.intro True.intro)
 | (fail_if_success with_reducible apply K_id); (fail_if_success with_reducible apply awp_id); first | omega | assumption | (refine And.intro ?_ ?_) | (intro hg; simp_all; done) | grind)
                      refine backK_n (n, k311 + 1, c310 + 1 + 1 + 1 + 1) hB49 (Nat.lt_succ_self _) ?_
                      refine Le.of ?_ ?_ (by first | exact Nat.le_refl _ | (simp; omega) | simp) <;> first | (simp only [go_sem, seval, hr77, he79, he83, he268, hx298, hx300, hx303, hx312, hx314]; done) | (simp only [go_sem, seval, hr77, he79, he83, he268, hx298, hx300, hx303, hx312, hx314, List.map_append, List.map_cons, List.map_nil, List.map_set, List.map_take, List.map_drop]; done) | (simp [hr77, he79, he83, he268, hx298, hx300, hx303, hx312, hx314, List.map_append, List.map_set]; done)
                  · rw [hc50, cond_false] at hB49
                    repeat' (first
 | (with_reducible (first | apply awp_sr5 | apply awp_r5 | apply awp_sd | apply awp_d | apply inlR_n5 | apply inlR_r5); (· (first | exact Ctx.fn_ok hS | exact Ctx.rd_ok hS | assumption | exact True.intro)); iterate 2 (· (simp only [go_sem, seval, hr77, he79, he83, he268, hx298, hx300, hx303] <;> eq_refl)))
 | with_reducible (first | apply awp_scp | apply awp_sn | apply awp_nop | apply awp_ret | apply awp_exit | apply awp_block | apply awp_seq | apply seqK_n | apply seqK_r | apply seqK_x | apply blkK_n | apply blkK_r | apply blkK_x)
 | (with_reducible apply blkK_y; (· first | rfl | decide))
 | (with_reducible apply cutK_o; (· simp))
 | with_reducible (first | apply backK_x | apply backK_r | apply asgK_n | apply rngK_x | apply rngK_r | apply True.intro | apply And.intro True.intro True.intro)
 | (fail_if_success with_reducible apply K_id); (fail_if_success with_reducible apply awp_id); first | omega | assumption | (refine And.intro ?_ ?_) | (intro hg; simp_all; done) | grind)
                    refine cutK_h (c310 + 1) (Option.some.inj hB49) ?_
                    refine Le.of ?_ ?_ (by first | exact Nat.le_refl _ | (simp; omega) | simp) <;> first | (simp only [go_sem, seval, hr77, he79, he83, he268, hx298, hx300, hx303]; done) | (simp only [go_sem, seval, hr77, he79, he83, he268, hx298, hx300, hx303, List.map_append, List.map_cons, List.map_nil, List.map_set, List.map_take, List.map_drop]; done) | (simp [hr77, he79, he83, he268, hx298, hx300, hx303, List.map_append, List.map_set]; done)
              · rintro c318 hz57
                subst hz57
                try simp only at hB36
                try simp only [gd_some, Option.bind_eq_some_iff] at hB36
                obtain ⟨hv58, hB36⟩ := hB36
                simp only [I64] at hv58
                repeat' (first
 | (with_reducible (first | apply awp_sr5 | apply awp_r5 | apply awp_sd | apply awp_d | apply inlR_n5 | apply inlR_r5); (· (first | exact Ctx.fn_ok hS | exact Ctx.rd_ok hS | assumption | exact True.intro)); iterate 2 (· (simp only [go_sem, seval, hr77, he79, he83, he268, hx298, hx300, hx303] <;> eq_refl)))
 | with_reducible (first | apply awp_scp | apply awp_sn | apply awp_nop | apply awp_ret | apply awp_exit | apply awp_block | apply awp_seq | apply seqK_n | apply seqK_r | apply seqK_x | apply blkK_n | apply blkK_r | apply blkK_x)
 | (with_reducible apply blkK_y; (· first | rfl | decide))
 | (with_reducible apply cutK_o; (· simp))
 | with_reducible (first | apply backK_x | apply backK_r | apply asgK_n | apply rngK_x | apply rngK_r | apply True.intro | apply And.intro True.intro True.intro)
 | (fail_if_success with_reducible apply K_id); (fail_if_success with_reducible apply awp_id); first | omega | assumption | (refine And.intro ?_ ?_) | (intro hg; simp_all; done) | grind)
                refine backK_n (n, i296 + 1, l297 ++ [max x300 ((r81 + r268) - (r76 * (max (x298 - r79) (r79 - x298))))], c318 + 1) hB36 (Nat.lt_succ_self _) ?_
                refine Le.of ?_ ?_ (by first | exact Nat.le_refl _ | (simp; omega) | simp) <;> first | (simp only [go_sem, seval, hr77, he79, he83, he268, hx298, hx300, hx303]; done) | (simp only [go_sem, seval, hr77, he79, he83, he268, hx298, hx300, hx303, List.map_append, List.map_cons, List.map_nil, List.map_set, List.map_take, List.map_drop]; done) | (simp [hr77, he79, he83, he268, hx298, hx300, hx303, List.map_append, List.map_set]; done)
          · rw [hc37, cond_false] at hB36
            repeat' (first
 | (with_reducible (first | apply awp_sr5 | apply awp_r5 | apply awp_sd | apply awp_d | apply inlR_n5 | apply inlR_r5); (· (first | exact Ctx.fn_ok hS | exact Ctx.rd_ok hS | assumption | exact True.intro)); iterate 2 (· (simp only [go_sem, seval, hr77, he79, he83, he268] <;> eq_refl)))
 | with_reducible (first | apply awp_scp | apply awp_sn | apply awp_nop | apply awp_ret | apply awp_exit | apply awp_block | apply awp_seq | apply seqK_n | apply seqK_r | apply seqK_x | apply blkK_n | apply blkK_r | apply blkK_x)
 | (with_reducible apply blkK_y; (· first | rfl | decide))
 | (with_reducible apply cutK_o; (· simp))
 | with_reducible (first | apply backK_x | apply backK_r | apply asgK_n | apply rngK_x | apply rngK_r | apply True.intro | apply And.intro True.intro True.intro)
 | (fail_if_success with_reducible apply K_id); (fail_if_success with_reducible apply awp_id); first | omega | assumption | (refine And.intro ?_ ?_) | (intro hg; simp_all; done) | grind)
            refine cutK_h (c295 + 1) (Option.some.inj hB36) ?_
            refine Le.of ?_ ?_ (by first | exact Nat.le_refl _ | (simp; omega) | simp) <;> first | (simp only [go_sem, seval, hr77, he79, he83, he268]; done) | (simp only [go_sem, seval, hr77, he79, he83, he268, List.map_append, List.map_cons, List.map_nil, List.map_set, List.map_take, List.map_drop]; done) | (simp [hr77, he79, he83, he268, List.map_append, List.map_set]; done)
      · rintro c324 hz59
        subst hz59
        try simp only at h
        obtain rfl := Option.some.inj h
        repeat' (first
 | (with_reducible (first | apply awp_sr5 | apply awp_r5 | apply awp_sd | apply awp_d | apply inlR_n5 | apply inlR_r5); (· (first | exact Ctx.fn_ok hS | exact Ctx.rd_ok hS | assumption | exact True.intro)); iterate 2 (· (simp only [go_sem, seval, hr77, he79, he83, he268] <;> eq_refl)))
 | with_reducible (first | apply awp_scp | apply awp_sn | apply awp_nop | apply awp_ret | apply awp_exit | apply awp_block | apply awp_seq | apply seqK_n | apply seqK_r | apply seqK_x | apply blkK_n | apply blkK_r | apply blkK_x)
 | (with_reducible apply blkK_y; (· first | rfl | decide))
 | (with_reducible apply cutK_o; (· simp))
 | with_reducible (first | apply backK_x | apply backK_r | apply asgK_n | apply rngK_x | apply rngK_r | apply True.intro | apply And.intro True.intro True.intro)
 | (fail_if_success with_reducible apply K_id); (fail_if_success with_reducible apply awp_id); first | omega | assumption | (refine And.intro ?_ ?_) | (intro hg; simp_all; done) | grind)
        first | refine endK_r (by simp only [go_sem, seval, hr77, he79, he83, he268] <;> eq_refl) (by simp only [go_sem, seval, hr77, he79, he83, he268]) (by simp only [go_sem, seval, hr77, he79, he83, he268]) ?_ rfl | refine endK_n (by simp only [go_sem, seval, hr77, he79, he83, he268] <;> eq_refl) (by simp only [go_sem, seval, hr77, he79, he83, he268]) (by simp only [go_sem, seval, hr77, he79, he83, he268]) ?_ rfl
        first | (simp only [go_sem, seval, hr77, he79, he83, he268]; done) | (simp only [go_sem, seval, hr77, he79, he83, he268, List.map_append, List.map_cons, List.map_nil, List.map_set, List.map_take, List.map_drop]; done) | (simp [hr77, he79, he83, he268]; done)
end

end Go.Proofs.Ytmmfbjmjhjmccaa.Am
