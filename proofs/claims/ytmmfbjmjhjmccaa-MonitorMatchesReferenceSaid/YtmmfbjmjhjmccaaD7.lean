import Derived.Test.YtmmfbjmjhjmccaaP14
namespace Go.Proofs.Ytmmfbjmjhjmccaa.Am
open Go
attribute [local irreducible] awp seqK blkK backK endK inlK restK rngK asgK itK
set_option maxRecDepth 100000
set_option maxHeartbeats 8000000
set_option linter.unusedSimpArgs false
set_option linter.unusedVariables false
/-! putlog/putlogref24.Exact -/
def D_putlogref24_Exact_L2 (N : Nat) (s9 : List (Int × Int)) (s2 : Int) (r10 : Int) (s6 : Int) (s7 : Int) (s8 : List Int) (r12 : Int) : Nat → Int → Int → (List (Int × Int)) → Option ((List (Int × Int)))
  | 0, _, _, _ => none
  | n + 1, t42, i43, l44 =>
    bif (decide (i43 < (s9.length : Int))) && (decide (i43 < 12)) then (
      gd (I64 (t42 + 1)) <|
      (nth s9 i43).bind fun (x45, x46) =>
      gd (inI x45) <|
      (some (pickS x45 30)).bind fun r48 =>
      gd (I64 ((t42 + 1) + r48)) <|
      gd (inI s2) <|
      gd (I64 (r10 + ((t42 + 1) + r48))) <|
      gd (inI s6) <|
      gd (inI s7) <|
      gd (∀ r ∈ s8, inI r) <|
      gd (0 ≤ (t42 + 1) + r48 ∧ (t42 + 1) + r48 ≤ 100000) <|
      (some (valueS s6 s7 s8 ((t42 + 1) + r48).toNat)).bind fun r51 =>
      gd (I64 (4 * r12)) <|
      gd (I64 ((4 * r12) + 1)) <|
      gd (inI x46) <|
      gd (0 < (4 * r12) + 1) <|
      (some (pickS x46 ((4 * r12) + 1))).bind fun r53 =>
      gd (I64 (r51 + r53)) <|
      gd (I64 (2 * r12)) <|
      gd (I64 ((r51 + r53) - (2 * r12))) <|
      gd ((l44.length + 1) * 16 ≤ 140737488355328) <|
      gd (I64 (i43 + 1)) <|
      D_putlogref24_Exact_L2 N s9 s2 r10 s6 s7 s8 r12 n ((t42 + 1) + r48) (i43 + 1) (l44 ++ [(r10 + ((t42 + 1) + r48), (r51 + r53) - (2 * r12))]))
    else (
      some l44)

def D_putlogref24_Exact (N : Nat) (s1 : Int) (s2 : Int) (s3 : List Int) (s4 : List (Int × Int × Int)) (s5 : Int) (s6 : Int) (s7 : Int) (s8 : List Int) (s9 : List (Int × Int)) : Option ((Int × (List (Int × Int × Int))) × Int × Int × (List (Int × Int))) :=
  gd (inI s2) <|
  (some (pickS s2 1000)).bind fun r10 =>
  gd (I64 (r10 + 50)) <|
  gd (inI s5) <|
  (some (pickS s5 31)).bind fun r12 =>
  gd (inI s6) <|
  (some (pickS s6 21)).bind fun r14 =>
  (D_putlogref24_Exact_L2 N s9 s2 r10 s6 s7 s8 r12 N 0 0 []).bind fun l60 =>
  some ((0, [(r10 + 50, 50, 50)]), r12, r14, l60)

def T13 (N : Nat) : List (Nat × Spec) := [(32, sPick), (34, sTol), (35, sRate), (28, sValue)]
theorem T13_ok (N : Nat) : TabOK Try.prog (tabOf (T13 N)) := tab_cons pick24_fok (tab_cons tol_fok (tab_cons rate_fok (tab_cons value_fok (tab_nil))))

section
attribute [local go_sem] T13 sPick sTol sRate sValue inI row1 dec1 dec1_row1 rb_row1 row2 dec2 dec2_row2 rb_row2 row3 dec3 dec3_row3 rb_row3 List.length_set Option.isSome_some
theorem D_putlogref24_Exact_ok (N : Nat) (s1 : Int) (s2 : Int) (s3 : List Int) (s4 : List (Int × Int × Int)) (s5 : Int) (s6 : Int) (s7 : Int) (s8 : List Int) (s9 : List (Int × Int)) (r : (Int × (List (Int × Int × Int))) × Int × Int × (List (Int × Int))) (h : D_putlogref24_Exact N s1 s2 s3 s4 s5 s6 s7 s8 s9 = some r) : PCall Try.prog 13 [.agg [.i s1, .i s2, .sl 1 false (s3.map row1) [.i 0], .sl 3 false (s4.map row3) [.i 0, .i 0, .i 0], .i s5, .i s6, .i s7, .sl 1 false (s8.map row1) [.i 0], .sl 2 false (s9.map row2) [.i 0, .i 0]]] (.agg [.i r.1.1, .sl 3 false (r.1.2.map row3) [.i 0, .i 0, .i 0], .i r.2.1, .i r.2.2.1, .sl 2 false (r.2.2.2.map row2) [.i 0, .i 0]]) := by
  refine pcall_fn (T13_ok N) _ Try.func13 ok13 nt13 (by simp) fun _ => ?_
  have hS := T13_ok N
  unfold ac13 rv13
  unfold D_putlogref24_Exact at h
  try simp only [gd_some, Option.bind_eq_some_iff] at h
  obtain ⟨hv1, r10, hr10, hv2, hv3, r12, hr12, hv4, r14, hr14, h⟩ := h
  have he10 := Option.some.inj hr10
  simp only [I64] at hv2
  have he12 := Option.some.inj hr12
  have he14 := Option.some.inj hr14
  repeat' (first
 | (with_reducible (first | apply awp_sr5 | apply awp_r5 | apply awp_sd | apply awp_d | apply inlR_n5 | apply inlR_r5); (· (first | exact Ctx.fn_ok hS | exact Ctx.rd_ok hS | assumption | exact True.intro)); iterate 2 (· (simp only [go_sem, seval, he10, he12, he14] <;> eq_refl)))
 | with_reducible (first | apply awp_scp | apply awp_sn | apply awp_nop | apply awp_ret | apply awp_exit | apply awp_block | apply awp_seq | apply seqK_n | apply seqK_r | apply seqK_x | apply blkK_n | apply blkK_r | apply blkK_x)
 | (with_reducible apply blkK_y; (· first | rfl | decide))
 | (with_reducible apply cutK_o; (· simp))
 | with_reducible (first | apply backK_x | apply backK_r | apply asgK_n | apply rngK_x | apply rngK_r | apply True.intro | apply And.intro True.intro True.intro)
 | (fail_if_success with_reducible apply K_id); (fail_if_success with_reducible apply awp_id); first | omega | (simp only [go_sem, seval, he10, he12, he14]; done) | with_reducible assumption | (refine And.intro ?_ ?_) | (intro hg; simp_all; done) | grind)
  refine awp_claimCk 1000001 (112, 2) 4 2 [.i 0, .i 0] (by omega) (by simp only [go_sem, seval, he10, he12, he14] <;> eq_refl) ?_
  try simp only [gd_some, Option.bind_eq_some_iff] at h
  obtain ⟨o61, hL5, h⟩ := h
  repeat' (first
 | (with_reducible (first | apply awp_sr5 | apply awp_r5 | apply awp_sd | apply awp_d | apply inlR_n5 | apply inlR_r5); (· (first | exact Ctx.fn_ok hS | exact Ctx.rd_ok hS | assumption | exact True.intro)); iterate 2 (· (simp only [go_sem, seval, he10, he12, he14] <;> eq_refl)))
 | with_reducible (first | apply awp_scp | apply awp_sn | apply awp_nop | apply awp_ret | apply awp_exit | apply awp_block | apply awp_seq | apply seqK_n | apply seqK_r | apply seqK_x | apply blkK_n | apply blkK_r | apply blkK_x)
 | (with_reducible apply blkK_y; (· first | rfl | decide))
 | (with_reducible apply cutK_o; (· simp))
 | with_reducible (first | apply backK_x | apply backK_r | apply asgK_n | apply rngK_x | apply rngK_r | apply True.intro | apply And.intro True.intro True.intro)
 | (fail_if_success with_reducible apply K_id); (fail_if_success with_reducible apply awp_id); first | omega | (simp only [go_sem, seval, he10, he12, he14]; done) | with_reducible assumption | (refine And.intro ?_ ?_) | (intro hg; simp_all; done) | grind)
  refine awp_cut (fun z : (List (Int × Int)) × Nat => ⟨[(2, .box (1, 1) 0), (3, .box (112, 2) 0)], [(.c (112, 2) 0, .i 0), (.c (112, 2) 1, .own (105, 2) [(r10 + 50, 50, 50)].length), (.c (112, 2) 2, .i r12), (.c (112, 2) 3, .i r14), (.c (112, 2) 4, .own (1000001, 5) z.1.length), (.a (1000001, 5), .sl 2 true (z.1.map row2) [.i 0, .i 0]), (.a (105, 2), .sl 3 true ([(r10 + 50, 50, 50)].map row3) [.i 0, .i 0, .i 0]), (.c (1, 1) 0, .i 0), (.c (1, 1) 1, .sl 0 true [] []), (.c (1, 1) 2, .i 0), (.c (1, 1) 3, .i 0), (.c (1, 1) 4, .sl 0 true [] [])], z.2⟩) (fun z => (z.1 : (List (Int × Int))) = o61) (.x 0) ?_ ?_
  · refine awp_loop (fun y : Nat × Int × Int × (List (Int × Int)) × Nat => ⟨[(1, .box (0, 1) 0), (2, .box (1, 1) 0), (3, .box (112, 2) 0), (4, .i y.2.1), (5, .i y.2.2.1)], [(.c (112, 2) 0, .i 0), (.c (112, 2) 1, .own (105, 2) [(r10 + 50, 50, 50)].length), (.c (112, 2) 2, .i r12), (.c (112, 2) 3, .i r14), (.c (112, 2) 4, .own (1000001, 5) y.2.2.2.1.length), (.a (1000001, 5), .sl 2 true (y.2.2.2.1.map row2) [.i 0, .i 0]), (.a (105, 2), .sl 3 true ([(r10 + 50, 50, 50)].map row3) [.i 0, .i 0, .i 0]), (.c (1, 1) 0, .i 0), (.c (1, 1) 1, .sl 0 true [] []), (.c (1, 1) 2, .i 0), (.c (1, 1) 3, .i 0), (.c (1, 1) 4, .sl 0 true [] []), (.c (0, 1) 0, .i s1), (.c (0, 1) 1, .i s2), (.c (0, 1) 2, .sl 1 false (s3.map row1) [.i 0]), (.c (0, 1) 3, .sl 3 false (s4.map row3) [.i 0, .i 0, .i 0]), (.c (0, 1) 4, .i s5), (.c (0, 1) 5, .i s6), (.c (0, 1) 6, .i s7), (.c (0, 1) 7, .sl 1 false (s8.map row1) [.i 0]), (.c (0, 1) 8, .sl 2 false (s9.map row2) [.i 0, .i 0])], y.2.2.2.2⟩) (fun y => D_putlogref24_Exact_L2 N s9 s2 r10 s6 s7 s8 r12 y.1 y.2.1 y.2.2.1 y.2.2.2.1 = some o61) (fun y => y.1) (N, 0, 0, [], 5) hL5 ?_ ?_
    · refine Le.of ?_ ?_ (by first | exact Nat.le_refl _ | (simp; omega) | simp) <;> first | (simp only [go_sem, seval, he10, he12, he14]; done) | (simp only [go_sem, seval, he10, he12, he14, List.map_append, List.map_cons, List.map_nil, List.map_set, List.map_take, List.map_drop]; done) | (simp [he10, he12, he14, List.map_append, List.map_set]; done)
    · rintro ⟨n, t42, i43, l44, c41⟩ hB6
      try simp only at hB6
      obtain _ | n := n
      · exact absurd hB6 (by simp [D_putlogref24_Exact_L2])
      rw [D_putlogref24_Exact_L2] at hB6
      repeat' (first
 | (with_reducible (first | apply awp_sr5 | apply awp_r5 | apply awp_sd | apply awp_d | apply inlR_n5 | apply inlR_r5); (· (first | exact Ctx.fn_ok hS | exact Ctx.rd_ok hS | assumption | exact True.intro)); iterate 2 (· (simp only [go_sem, seval, he10, he12, he14] <;> eq_refl)))
 | with_reducible (first | apply awp_scp | apply awp_sn | apply awp_nop | apply awp_ret | apply awp_exit | apply awp_block | apply awp_seq | apply seqK_n | apply seqK_r | apply seqK_x | apply blkK_n | apply blkK_r | apply blkK_x)
 | (with_reducible apply blkK_y; (· first | rfl | decide))
 | (with_reducible apply cutK_o; (· simp))
 | with_reducible (first | apply backK_x | apply backK_r | apply asgK_n | apply rngK_x | apply rngK_r | apply True.intro | apply And.intro True.intro True.intro)
 | (fail_if_success with_reducible apply K_id); (fail_if_success with_reducible apply awp_id); first | omega | (simp only [go_sem, seval, he10, he12, he14]; done) | with_reducible assumption | (refine And.intro ?_ ?_) | (intro hg; simp_all; done) | grind)
      refine awp_cb (B' := (decide (i43 < (s9.length : Int))) && (decide (i43 < 12))) (by simp only [go_sem, seval, he10, he12, he14] <;> eq_refl) (by first | rfl | (simp; done) | grind) (fun hc7 => ?_) (fun hc7 => ?_)
      · rw [hc7, cond_true] at hB6
        try simp only [gd_some, Option.bind_eq_some_iff] at hB6
        obtain ⟨hv8, ⟨x45, x46⟩, hn46, hB6⟩ := hB6
        simp only [I64] at hv8
        have hx46 : s9.getD i43.toNat (0, 0) = (x45, x46) := ixs hn46 _
        have hb46 := (nth_some hn46).1
        try simp only [gd_some, Option.bind_eq_some_iff] at hB6
        obtain ⟨hv9, r48, hr48, hv10, hv11, hv12, hv13, hv14, hv15, hv16, r51, hr51, hv17, hv18, hv19, hv20, r53, hr53, hv21, hv22, hv23, hv24, hv25, hB6⟩ := hB6
        have he48 := Option.some.inj hr48
        simp only [I64] at hv10
        simp only [I64] at hv12
        have he51 := Option.some.inj hr51
        simp only [I64] at hv17
        simp only [I64] at hv18
        have he53 := Option.some.inj hr53
        simp only [I64] at hv21
        simp only [I64] at hv22
        simp only [I64] at hv23
        simp only [I64] at hv25
        repeat' (first
 | (with_reducible (first | apply awp_sr5 | apply awp_r5 | apply awp_sd | apply awp_d | apply inlR_n5 | apply inlR_r5); (· (first | exact Ctx.fn_ok hS | exact Ctx.rd_ok hS | assumption | exact True.intro)); iterate 2 (· (simp only [go_sem, seval, he10, he12, he14, hx46, he48, he51, he53] <;> eq_refl)))
 | with_reducible (first | apply awp_scp | apply awp_sn | apply awp_nop | apply awp_ret | apply awp_exit | apply awp_block | apply awp_seq | apply seqK_n | apply seqK_r | apply seqK_x | apply blkK_n | apply blkK_r | apply blkK_x)
 | (with_reducible apply blkK_y; (· first | rfl | decide))
 | (with_reducible apply cutK_o; (· simp))
 | with_reducible (first | apply backK_x | apply backK_r | apply asgK_n | apply rngK_x | apply rngK_r | apply True.intro | apply And.intro True.intro True.intro)
 | (fail_if_success with_reducible apply K_id); (fail_if_success with_reducible apply awp_id); first | omega | (simp only [go_sem, seval, he10, he12, he14, hx46, he48, he51, he53]; done) | with_reducible assumption | (refine And.intro ?_ ?_) | (intro hg; simp_all; done) | grind)
        refine backK_n (n, (t42 + 1) + r48, i43 + 1, l44 ++ [(r10 + ((t42 + 1) + r48), (r51 + r53) - (2 * r12))], c41 + 1 + 1 + 1 + 1) hB6 (Nat.lt_succ_self _) ?_
        refine Le.of ?_ ?_ (by first | exact Nat.le_refl _ | (simp; omega) | simp) <;> first | (simp only [go_sem, seval, he10, he12, he14, hx46, he48, he51, he53]; done) | (simp only [go_sem, seval, he10, he12, he14, hx46, he48, he51, he53, List.map_append, List.map_cons, List.map_nil, List.map_set, List.map_take, List.map_drop]; done) | (simp [he10, he12, he14, hx46, he48, he51, he53, List.map_append, List.map_set]; done)
      · rw [hc7, cond_false] at hB6
        repeat' (first
 | (with_reducible (first | apply awp_sr5 | apply awp_r5 | apply awp_sd | apply awp_d | apply inlR_n5 | apply inlR_r5); (· (first | exact Ctx.fn_ok hS | exact Ctx.rd_ok hS | assumption | exact True.intro)); iterate 2 (· (simp only [go_sem, seval, he10, he12, he14] <;> eq_refl)))
 | with_reducible (first | apply awp_scp | apply awp_sn | apply awp_nop | apply awp_ret | apply awp_exit | apply awp_block | apply awp_seq | apply seqK_n | apply seqK_r | apply seqK_x | apply blkK_n | apply blkK_r | apply blkK_x)
 | (with_reducible apply blkK_y; (· first | rfl | decide))
 | (with_reducible apply cutK_o; (· simp))
 | with_reducible (first | apply backK_x | apply backK_r | apply asgK_n | apply rngK_x | apply rngK_r | apply True.intro | apply And.intro True.intro True.intro)
 | (fail_if_success with_reducible apply K_id); (fail_if_success with_reducible apply awp_id); first | omega | (simp only [go_sem, seval, he10, he12, he14]; done) | with_reducible assumption | (refine And.intro ?_ ?_) | (intro hg; simp_all; done) | grind)
        refine cutK_h (l44, c41 + 1) (Option.some.inj hB6) ?_
        refine Le.of ?_ ?_ (by first | exact Nat.le_refl _ | (simp; omega) | simp) <;> first | (simp only [go_sem, seval, he10, he12, he14]; done) | (simp only [go_sem, seval, he10, he12, he14, List.map_append, List.map_cons, List.map_nil, List.map_set, List.map_take, List.map_drop]; done) | (simp [he10, he12, he14, List.map_append, List.map_set]; done)
  · rintro ⟨l60, c59⟩ hz26
    subst hz26
    try simp only at h
    obtain rfl := Option.some.inj h
    repeat' (first
 | (with_reducible (first | apply awp_sr5 | apply awp_r5 | apply awp_sd | apply awp_d | apply inlR_n5 | apply inlR_r5); (· (first | exact Ctx.fn_ok hS | exact Ctx.rd_ok hS | assumption | exact True.intro)); iterate 2 (· (simp only [go_sem, seval, he10, he12, he14] <;> eq_refl)))
 | with_reducible (first | apply awp_scp | apply awp_sn | apply awp_nop | apply awp_ret | apply awp_exit | apply awp_block | apply awp_seq | apply seqK_n | apply seqK_r | apply seqK_x | apply blkK_n | apply blkK_r | apply blkK_x)
 | (with_reducible apply blkK_y; (· first | rfl | decide))
 | (with_reducible apply cutK_o; (· simp))
 | with_reducible (first | apply backK_x | apply backK_r | apply asgK_n | apply rngK_x | apply rngK_r | apply True.intro | apply And.intro True.intro True.intro)
 | (fail_if_success with_reducible apply K_id); (fail_if_success with_reducible apply awp_id); first | omega | (simp only [go_sem, seval, he10, he12, he14]; done) | with_reducible assumption | (refine And.intro ?_ ?_) | (intro hg; simp_all; done) | grind)
    first | refine endK_r (by simp only [go_sem, seval, he10, he12, he14] <;> eq_refl) (by simp only [go_sem, seval, he10, he12, he14]) (by simp only [go_sem, seval, he10, he12, he14]) ?_ rfl | refine endK_n (by simp only [go_sem, seval, he10, he12, he14] <;> eq_refl) (by simp only [go_sem, seval, he10, he12, he14]) (by simp only [go_sem, seval, he10, he12, he14]) ?_ rfl
    first | (simp only [go_sem, seval, he10, he12, he14]; done) | (simp only [go_sem, seval, he10, he12, he14, List.map_append, List.map_cons, List.map_nil, List.map_set, List.map_take, List.map_drop]; done) | (simp [he10, he12, he14]; done)
end

def s13 (N : Nat) : Spec
  | [.agg [.v (.int .i64 s1), .v (.int .i64 s2), .sl ys3 _ s3 _, .sl ys4 _ s4 _, .v (.int .i64 s5), .v (.int .i64 s6), .v (.int .i64 s7), .sl ys8 _ s8 _, .sl ys9 _ s9 _]] => some (((ys3 = 1 ∨ s3 = []) ∧ s3 = (s3.map dec1).map row1) ∧ ((ys4 = 3 ∨ s4 = []) ∧ s4 = (s4.map dec3).map row3) ∧ ((ys8 = 1 ∨ s8 = []) ∧ s8 = (s8.map dec1).map row1) ∧ ((ys9 = 2 ∨ s9 = []) ∧ s9 = (s9.map dec2).map row2) ∧ (D_putlogref24_Exact N s1 s2 (s3.map dec1) (s4.map dec3) s5 s6 s7 (s8.map dec1) (s9.map dec2)).isSome = true, .agg [.i ((((D_putlogref24_Exact N s1 s2 (s3.map dec1) (s4.map dec3) s5 s6 s7 (s8.map dec1) (s9.map dec2)).getD ((0, []), 0, 0, [])).1).1), .sl 3 false (((((D_putlogref24_Exact N s1 s2 (s3.map dec1) (s4.map dec3) s5 s6 s7 (s8.map dec1) (s9.map dec2)).getD ((0, []), 0, 0, [])).1).2).map row3) [.i 0, .i 0, .i 0], .i (((D_putlogref24_Exact N s1 s2 (s3.map dec1) (s4.map dec3) s5 s6 s7 (s8.map dec1) (s9.map dec2)).getD ((0, []), 0, 0, [])).2.1), .i (((D_putlogref24_Exact N s1 s2 (s3.map dec1) (s4.map dec3) s5 s6 s7 (s8.map dec1) (s9.map dec2)).getD ((0, []), 0, 0, [])).2.2.1), .sl 2 false ((((D_putlogref24_Exact N s1 s2 (s3.map dec1) (s4.map dec3) s5 s6 s7 (s8.map dec1) (s9.map dec2)).getD ((0, []), 0, 0, [])).2.2.2).map row2) [.i 0, .i 0]])
  | _ => none
theorem fok13 (N : Nat) : FOK Try.prog 13 (s13 N) := ⟨of13, by
  intro args vc r h hv
  unfold s13 at h
  split at h
  · cases h
    obtain ⟨⟨hy0, hr0⟩, ⟨hy1, hr1⟩, ⟨hy2, hr2⟩, ⟨hy3, hr3⟩, hs⟩ := hv
    obtain ⟨r, hr⟩ := Option.isSome_iff_exists.1 hs
    have hk := D_putlogref24_Exact_ok N _ _ _ _ _ _ _ _ _ r hr
    simp only [hr, Option.getD_some]
    refine PCall.arg ?_ hk
    simp only [wkL, wk, and_true, true_and, Bool.false_eq_true, false_implies, implies_true]
    repeat' (first | exact True.intro | assumption | apply And.intro)
  · simp at h⟩
end Go.Proofs.Ytmmfbjmjhjmccaa.Am
