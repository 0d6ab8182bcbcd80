import Derived.Test.YtmmfbjmjhjmccaaP14
namespace Go.Proofs.Ytmmfbjmjhjmccaa.Am
open Go
attribute [local irreducible] awp seqK blkK backK endK inlK restK rngK asgK itK
set_option maxRecDepth 100000
set_option maxHeartbeats 8000000
set_option linter.unusedSimpArgs false
set_option linter.unusedVariables false
/-! putlog/putlogref24.Bent -/
def D_putlogref24_Bent (N : Nat) (g327 : Int) (g328 : List (Int × Int × Int)) (g329 : Int) (g330 : Int) (g331 : List (Int × Int)) (how332 : Int) (n333 : Int) (at334 : Int) : Option ((Int × (List (Int × Int × Int))) × Int × Int × (List (Int × Int))) :=
  gd ((g331.length) * 16 ≤ 140737488355328) <|
  bif decide ((g331.length : Int) = 0) then (
    gd (inI at334) <|
    (some (pickS at334 1)).bind fun r507 =>
    gd (inI how332) <|
    (some (pickS how332 6)).bind fun r509 =>
    bif decide (r509 = 0) then (
      some ((g327, g328), n333, g330, [(n333, at334)]))
    else (
      bif decide (r509 = 1) then (
        some ((g327, g328), g329, n333, [(n333, at334)]))
      else (
        bif decide (r509 = 2) then (
          (nth [(n333, at334)] r507).bind fun (x658, x659) =>
          some ((g327, g328), g329, g330, [(n333, at334)].set r507.toNat (n333, x659)))
        else (
          bif decide (r509 = 3) then (
            (nth [(n333, at334)] r507).bind fun (x670, x671) =>
            some ((g327, g328), g329, g330, [(n333, at334)].set r507.toNat (x670, n333)))
          else (
            bif decide (r509 = 4) then (
              some ((n333, g328), g329, g330, [(n333, at334)]))
            else (
              (nth [(n333, at334)] (IntKind.wrap .i64 0)).bind fun (x676, x677) =>
              some ((g327, g328), g329, g330, [(n333, at334), (IntKind.wrap .i64 (x676 + 1), n333)])))))))
  else (
    gd (inI at334) <|
    gd (0 < (g331.length : Int)) <|
    (some (pickS at334 (g331.length : Int))).bind fun r679 =>
    gd (inI how332) <|
    (some (pickS how332 6)).bind fun r681 =>
    bif decide (r681 = 0) then (
      some ((g327, g328), n333, g330, g331))
    else (
      bif decide (r681 = 1) then (
        some ((g327, g328), g329, n333, g331))
      else (
        bif decide (r681 = 2) then (
          (nth g331 r679).bind fun (x830, x831) =>
          some ((g327, g328), g329, g330, g331.set r679.toNat (n333, x831)))
        else (
          bif decide (r681 = 3) then (
            (nth g331 r679).bind fun (x842, x843) =>
            some ((g327, g328), g329, g330, g331.set r679.toNat (x842, n333)))
          else (
            bif decide (r681 = 4) then (
              some ((n333, g328), g329, g330, g331))
            else (
              (nth g331 (IntKind.wrap .i64 ((g331.length : Int) - 1))).bind fun (x848, x849) =>
              gd ((g331.length + 1) * 16 ≤ 140737488355328) <|
              some ((g327, g328), g329, g330, g331 ++ [(IntKind.wrap .i64 (x848 + 1), n333)])))))))

def T14 (N : Nat) : List (Nat × Spec) := [(32, sPick)]
theorem T14_ok (N : Nat) : TabOK Try.prog (tabW (T14 N)) := tabW_ok (tab_cons pick24_fok (tab_nil))

section
attribute [local go_sem] T14 sPick inI row1 dec1 dec1_row1 rb_row1 row2 dec2 dec2_row2 rb_row2 row3 dec3 dec3_row3 rb_row3 List.length_set Option.isSome_some
theorem D_putlogref24_Bent_ok (N : Nat) (g327 : Int) (g328 : List (Int × Int × Int)) (g329 : Int) (g330 : Int) (g331 : List (Int × Int)) (how332 : Int) (n333 : Int) (at334 : Int) (r : (Int × (List (Int × Int × Int))) × Int × Int × (List (Int × Int))) (h : D_putlogref24_Bent N g327 g328 g329 g330 g331 how332 n333 at334 = some r) : PCall Try.prog 14 [.agg [.i g327, .sl 3 false (g328.map row3) [.i 0, .i 0, .i 0], .i g329, .i g330, .sl 2 false (g331.map row2) [.i 0, .i 0]], .i how332, .i n333, .i at334] (.agg [.i r.1.1, .sl 3 false (r.1.2.map row3) [.i 0, .i 0, .i 0], .i r.2.1, .i r.2.2.1, .sl 2 false (r.2.2.2.map row2) [.i 0, .i 0]]) := by
  refine pcall_fn (T14_ok N) _ Try.func14 ok14 nt14 (by simp) fun _ => ?_
  have hS := T14_ok N
  unfold ac14 rv14
  unfold D_putlogref24_Bent at h
  try simp only [gd_some, Option.bind_eq_some_iff] at h
  obtain ⟨hv1, h⟩ := h
  repeat' (first
 | (with_reducible (first | apply awp_sr5 | apply awp_r5 | apply awp_sd | apply awp_d | apply inlR_n5 | apply inlR_r5); (· (first | exact Ctx.fn_ok hS | exact Ctx.rd_ok hS | assumption | exact True.intro)); iterate 2 (· (simp only [go_sem, seval] <;> eq_refl)))
 | with_reducible (first | apply awp_scp | apply awp_sn | apply awp_nop | apply awp_ret | apply awp_exit | apply awp_block | apply awp_seq | apply seqK_n | apply seqK_r | apply seqK_x | apply blkK_n | apply blkK_r | apply blkK_x)
 | (with_reducible apply blkK_y; (· first | rfl | decide))
 | (with_reducible apply cutK_o; (· simp))
 | with_reducible (first | apply backK_x | apply backK_r | apply asgK_n | apply rngK_x | apply rngK_r | apply True.intro | apply And.intro True.intro True.intro)
 | (fail_if_success with_reducible apply K_id); (fail_if_success with_reducible apply awp_id); first | omega | (simp only [go_sem, seval]; done) | with_reducible assumption | (refine And.intro ?_ ?_) | (intro hg; simp_all; done) | grind)
  refine awp_cb (B' := decide ((g331.length : Int) = 0)) (by simp only [go_sem, seval] <;> eq_refl) (by first | rfl | (simp; done) | grind) (fun hc2 => ?_) (fun hc2 => ?_)
  · rw [hc2, cond_true] at h
    try simp only [gd_some, Option.bind_eq_some_iff] at h
    obtain ⟨hv3, r507, hr507, hv4, r509, hr509, h⟩ := h
    have he507 := Option.some.inj hr507
    have he509 := Option.some.inj hr509
    repeat' (first
 | (with_reducible (first | apply awp_sr5 | apply awp_r5 | apply awp_sd | apply awp_d | apply inlR_n5 | apply inlR_r5); (· (first | exact Ctx.fn_ok hS | exact Ctx.rd_ok hS | assumption | exact True.intro)); iterate 2 (· (simp only [go_sem, seval, he507, he509] <;> eq_refl)))
 | with_reducible (first | apply awp_scp | apply awp_sn | apply awp_nop | apply awp_ret | apply awp_exit | apply awp_block | apply awp_seq | apply seqK_n | apply seqK_r | apply seqK_x | apply blkK_n | apply blkK_r | apply blkK_x)
 | (with_reducible apply blkK_y; (· first | rfl | decide))
 | (with_reducible apply cutK_o; (· simp))
 | with_reducible (first | apply backK_x | apply backK_r | apply asgK_n | apply rngK_x | apply rngK_r | apply True.intro | apply And.intro True.intro True.intro)
 | (fail_if_success with_reducible apply K_id); (fail_if_success with_reducible apply awp_id); first | omega | (simp only [go_sem, seval, he507, he509]; done) | with_reducible assumption | (refine And.intro ?_ ?_) | (intro hg; simp_all; done) | grind)
    refine awp_cb (B' := decide (r509 = 0)) (by simp only [go_sem, seval, he507, he509] <;> eq_refl) (by first | rfl | (simp; done) | grind) (fun hc5 => ?_) (fun hc5 => ?_)
    · rw [hc5, cond_true] at h
      obtain rfl := Option.some.inj h
      repeat' (first
 | (with_reducible (first | apply awp_sr5 | apply awp_r5 | apply awp_sd | apply awp_d | apply inlR_n5 | apply inlR_r5); (· (first | exact Ctx.fn_ok hS | exact Ctx.rd_ok hS | assumption | exact True.intro)); iterate 2 (· (simp only [go_sem, seval, he507, he509] <;> eq_refl)))
 | with_reducible (first | apply awp_scp | apply awp_sn | apply awp_nop | apply awp_ret | apply awp_exit | apply awp_block | apply awp_seq | apply seqK_n | apply seqK_r | apply seqK_x | apply blkK_n | apply blkK_r | apply blkK_x)
 | (with_reducible apply blkK_y; (· first | rfl | decide))
 | (with_reducible apply cutK_o; (· simp))
 | with_reducible (first | apply backK_x | apply backK_r | apply asgK_n | apply rngK_x | apply rngK_r | apply True.intro | apply And.intro True.intro True.intro)
 | (fail_if_success with_reducible apply K_id); (fail_if_success with_reducible apply awp_id); first | omega | (simp only [go_sem, seval, he507, he509]; done) | with_reducible assumption | (refine And.intro ?_ ?_) | (intro hg; simp_all; done) | grind)
      first | refine endK_r (by simp only [go_sem, seval, he507, he509] <;> eq_refl) (by simp only [go_sem, seval, he507, he509]) (by simp only [go_sem, seval, he507, he509]) ?_ rfl | refine endK_n (by simp only [go_sem, seval, he507, he509] <;> eq_refl) (by simp only [go_sem, seval, he507, he509]) (by simp only [go_sem, seval, he507, he509]) ?_ rfl
      first | (simp only [go_sem, seval, he507, he509]; done) | (simp only [go_sem, seval, he507, he509, List.map_append, List.map_cons, List.map_nil, List.map_set, List.map_take, List.map_drop]; done) | (simp [he507, he509]; done)
    · rw [hc5, cond_false] at h
      repeat' (first
 | (with_reducible (first | apply awp_sr5 | apply awp_r5 | apply awp_sd | apply awp_d | apply inlR_n5 | apply inlR_r5); (· (first | exact Ctx.fn_ok hS | exact Ctx.rd_ok hS | assumption | exact True.intro)); iterate 2 (· (simp only [go_sem, seval, he507, he509] <;> eq_refl)))
 | with_reducible (first | apply awp_scp | apply awp_sn | apply awp_nop | apply awp_ret | apply awp_exit | apply awp_block | apply awp_seq | apply seqK_n | apply seqK_r | apply seqK_x | apply blkK_n | apply blkK_r | apply blkK_x)
 | (with_reducible apply blkK_y; (· first | rfl | decide))
 | (with_reducible apply cutK_o; (· simp))
 | with_reducible (first | apply backK_x | apply backK_r | apply asgK_n | apply rngK_x | apply rngK_r | apply True.intro | apply And.intro True.intro True.intro)
 | (fail_if_success with_reducible apply K_id); (fail_if_success with_reducible apply awp_id); first | omega | (simp only [go_sem, seval, he507, he509]; done) | with_reducible assumption | (refine And.intro ?_ ?_) | (intro hg; simp_all; done) | grind)
      refine awp_cb (B' := decide (r509 = 1)) (by simp only [go_sem, seval, he507, he509] <;> eq_refl) (by first | rfl | (simp; done) | grind) (fun hc6 => ?_) (fun hc6 => ?_)
      · rw [hc6, cond_true] at h
        obtain rfl := Option.some.inj h
        repeat' (first
 | (with_reducible (first | apply awp_sr5 | apply awp_r5 | apply awp_sd | apply awp_d | apply inlR_n5 | apply inlR_r5); (· (first | exact Ctx.fn_ok hS | exact Ctx.rd_ok hS | assumption | exact True.intro)); iterate 2 (· (simp only [go_sem, seval, he507, he509] <;> eq_refl)))
 | with_reducible (first | apply awp_scp | apply awp_sn | apply awp_nop | apply awp_ret | apply awp_exit | apply awp_block | apply awp_seq | apply seqK_n | apply seqK_r | apply seqK_x | apply blkK_n | apply blkK_r | apply blkK_x)
 | (with_reducible apply blkK_y; (· first | rfl | decide))
 | (with_reducible apply cutK_o; (· simp))
 | with_reducible (first | apply backK_x | apply backK_r | apply asgK_n | apply rngK_x | apply rngK_r | apply True.intro | apply And.intro True.intro True.intro)
 | (fail_if_success with_reducible apply K_id); (fail_if_success with_reducible apply awp_id); first | omega | (simp only [go_sem, seval, he507, he509]; done) | with_reducible assumption | (refine And.intro ?_ ?_) | (intro hg; simp_all; done) | grind)
        first | refine endK_r (by simp only [go_sem, seval, he507, he509] <;> eq_refl) (by simp only [go_sem, seval, he507, he509]) (by simp only [go_sem, seval, he507, he509]) ?_ rfl | refine endK_n (by simp only [go_sem, seval, he507, he509] <;> eq_refl) (by simp only [go_sem, seval, he507, he509]) (by simp only [go_sem, seval, he507, he509]) ?_ rfl
        first | (simp only [go_sem, seval, he507, he509]; done) | (simp only [go_sem, seval, he507, he509, List.map_append, List.map_cons, List.map_nil, List.map_set, List.map_take, List.map_drop]; done) | (simp [he507, he509]; done)
      · rw [hc6, cond_false] at h
        repeat' (first
 | (with_reducible (first | apply awp_sr5 | apply awp_r5 | apply awp_sd | apply awp_d | apply inlR_n5 | apply inlR_r5); (· (first | exact Ctx.fn_ok hS | exact Ctx.rd_ok hS | assumption | exact True.intro)); iterate 2 (· (simp only [go_sem, seval, he507, he509] <;> eq_refl)))
 | with_reducible (first | apply awp_scp | apply awp_sn | apply awp_nop | apply awp_ret | apply awp_exit | apply awp_block | apply awp_seq | apply seqK_n | apply seqK_r | apply seqK_x | apply blkK_n | apply blkK_r | apply blkK_x)
 | (with_reducible apply blkK_y; (· first | rfl | decide))
 | (with_reducible apply cutK_o; (· simp))
 | with_reducible (first | apply backK_x | apply backK_r | apply asgK_n | apply rngK_x | apply rngK_r | apply True.intro | apply And.intro True.intro True.intro)
 | (fail_if_success with_reducible apply K_id); (fail_if_success with_reducible apply awp_id); first | omega | (simp only [go_sem, seval, he507, he509]; done) | with_reducible assumption | (refine And.intro ?_ ?_) | (intro hg; simp_all; done) | grind)
        refine awp_cb (B' := decide (r509 = 2)) (by simp only [go_sem, seval, he507, he509] <;> eq_refl) (by first | rfl | (simp; done) | grind) (fun hc7 => ?_) (fun hc7 => ?_)
        · rw [hc7, cond_true] at h
          try simp only [gd_some, Option.bind_eq_some_iff] at h
          obtain ⟨⟨x658, x659⟩, hn659, h⟩ := h
          have hx659 : [(n333, at334)].getD r507.toNat (0, 0) = (x658, x659) := ixs hn659 _
          have hq659 : rowAt [[.i n333, .i at334]] [.i 0, .i 0] r507.toNat = [.i x658, .i x659] := by have hq := rb_row2 [(n333, at334)] r507.toNat; rw [hx659] at hq; exact hq
          have hb659 := (nth_some hn659).1
          try simp only [List.length_cons, List.length_nil] at hb659
          obtain rfl := Option.some.inj h
          repeat' (first
 | (with_reducible (first | apply awp_sr5 | apply awp_r5 | apply awp_sd | apply awp_d | apply inlR_n5 | apply inlR_r5); (· (first | exact Ctx.fn_ok hS | exact Ctx.rd_ok hS | assumption | exact True.intro)); iterate 2 (· (simp only [go_sem, seval, he507, he509, hx659, hq659] <;> eq_refl)))
 | with_reducible (first | apply awp_scp | apply awp_sn | apply awp_nop | apply awp_ret | apply awp_exit | apply awp_block | apply awp_seq | apply seqK_n | apply seqK_r | apply seqK_x | apply blkK_n | apply blkK_r | apply blkK_x)
 | (with_reducible apply blkK_y; (· first | rfl | decide))
 | (with_reducible apply cutK_o; (· simp))
 | with_reducible (first | apply backK_x | apply backK_r | apply asgK_n | apply rngK_x | apply rngK_r | apply True.intro | apply And.intro True.intro True.intro)
 | (fail_if_success with_reducible apply K_id); (fail_if_success with_reducible apply awp_id); first | omega | (simp only [go_sem, seval, he507, he509, hx659, hq659]; done) | with_reducible assumption | (refine And.intro ?_ ?_) | (intro hg; simp_all; done) | grind)
          first | refine endK_r (by simp only [go_sem, seval, he507, he509, hx659, hq659] <;> eq_refl) (by simp only [go_sem, seval, he507, he509, hx659, hq659]) (by simp only [go_sem, seval, he507, he509, hx659, hq659]) ?_ rfl | refine endK_n (by simp only [go_sem, seval, he507, he509, hx659, hq659] <;> eq_refl) (by simp only [go_sem, seval, he507, he509, hx659, hq659]) (by simp only [go_sem, seval, he507, he509, hx659, hq659]) ?_ rfl
          first | (simp only [go_sem, seval, he507, he509, hx659, hq659]; done) | (simp only [go_sem, seval, he507, he509, hx659, hq659, List.map_append, List.map_cons, List.map_nil, List.map_set, List.map_take, List.map_drop]; done) | (simp [he507, he509, hx659, hq659]; done)
        · rw [hc7, cond_false] at h
          repeat' (first
 | (with_reducible (first | apply awp_sr5 | apply awp_r5 | apply awp_sd | apply awp_d | apply inlR_n5 | apply inlR_r5); (· (first | exact Ctx.fn_ok hS | exact Ctx.rd_ok hS | assumption | exact True.intro)); iterate 2 (· (simp only [go_sem, seval, he507, he509] <;> eq_refl)))
 | with_reducible (first | apply awp_scp | apply awp_sn | apply awp_nop | apply awp_ret | apply awp_exit | apply awp_block | apply awp_seq | apply seqK_n | apply seqK_r | apply seqK_x | apply blkK_n | apply blkK_r | apply blkK_x)
 | (with_reducible apply blkK_y; (· first | rfl | decide))
 | (with_reducible apply cutK_o; (· simp))
 | with_reducible (first | apply backK_x | apply backK_r | apply asgK_n | apply rngK_x | apply rngK_r | apply True.intro | apply And.intro True.intro True.intro)
 | (fail_if_success with_reducible apply K_id); (fail_if_success with_reducible apply awp_id); first | omega | (simp only [go_sem, seval, he507, he509]; done) | with_reducible assumption | (refine And.intro ?_ ?_) | (intro hg; simp_all; done) | grind)
          refine awp_cb (B' := decide (r509 = 3)) (by simp only [go_sem, seval, he507, he509] <;> eq_refl) (by first | rfl | (simp; done) | grind) (fun hc8 => ?_) (fun hc8 => ?_)
          · rw [hc8, cond_true] at h
            try simp only [gd_some, Option.bind_eq_some_iff] at h
            obtain ⟨⟨x670, x671⟩, hn671, h⟩ := h
            have hx671 : [(n333, at334)].getD r507.toNat (0, 0) = (x670, x671) := ixs hn671 _
            have hq671 : rowAt [[.i n333, .i at334]] [.i 0, .i 0] r507.toNat = [.i x670, .i x671] := by have hq := rb_row2 [(n333, at334)] r507.toNat; rw [hx671] at hq; exact hq
            have hb671 := (nth_some hn671).1
            try simp only [List.length_cons, List.length_nil] at hb671
            obtain rfl := Option.some.inj h
            repeat' (first
 | (with_reducible (first | apply awp_sr5 | apply awp_r5 | apply awp_sd | apply awp_d | apply inlR_n5 | apply inlR_r5); (· (first | exact Ctx.fn_ok hS | exact Ctx.rd_ok hS | assumption | exact True.intro)); iterate 2 (· (simp only [go_sem, seval, he507, he509, hx671, hq671] <;> eq_refl)))
 | with_reducible (first | apply awp_scp | apply awp_sn | apply awp_nop | apply awp_ret | apply awp_exit | apply awp_block | apply awp_seq | apply seqK_n | apply seqK_r | apply seqK_x | apply blkK_n | apply blkK_r | apply blkK_x)
 | (with_reducible apply blkK_y; (· first | rfl | decide))
 | (with_reducible apply cutK_o; (· simp))
 | with_reducible (first | apply backK_x | apply backK_r | apply asgK_n | apply rngK_x | apply rngK_r | apply True.intro | apply And.intro True.intro True.intro)
 | (fail_if_success with_reducible apply K_id); (fail_if_success with_reducible apply awp_id); first | omega | (simp only [go_sem, seval, he507, he509, hx671, hq671]; done) | with_reducible assumption | (refine And.intro ?_ ?_) | (intro hg; simp_all; done) | grind)
            first | refine endK_r (by simp only [go_sem, seval, he507, he509, hx671, hq671] <;> eq_refl) (by simp only [go_sem, seval, he507, he509, hx671, hq671]) (by simp only [go_sem, seval, he507, he509, hx671, hq671]) ?_ rfl | refine endK_n (by simp only [go_sem, seval, he507, he509, hx671, hq671] <;> eq_refl) (by simp only [go_sem, seval, he507, he509, hx671, hq671]) (by simp only [go_sem, seval, he507, he509, hx671, hq671]) ?_ rfl
            first | (simp only [go_sem, seval, he507, he509, hx671, hq671]; done) | (simp only [go_sem, seval, he507, he509, hx671, hq671, List.map_append, List.map_cons, List.map_nil, List.map_set, List.map_take, List.map_drop]; done) | (simp [he507, he509, hx671, hq671]; done)
          · rw [hc8, cond_false] at h
            repeat' (first
 | (with_reducible (first | apply awp_sr5 | apply awp_r5 | apply awp_sd | apply awp_d | apply inlR_n5 | apply inlR_r5); (· (first | exact Ctx.fn_ok hS | exact Ctx.rd_ok hS | assumption | exact True.intro)); iterate 2 (· (simp only [go_sem, seval, he507, he509] <;> eq_refl)))
 | with_reducible (first | apply awp_scp | apply awp_sn | apply awp_nop | apply awp_ret | apply awp_exit | apply awp_block | apply awp_seq | apply seqK_n | apply seqK_r | apply seqK_x | apply blkK_n | apply blkK_r | apply blkK_x)
 | (with_reducible apply blkK_y; (· first | rfl | decide))
 | (with_reducible apply cutK_o; (· simp))
 | with_reducible (first | apply backK_x | apply backK_r | apply asgK_n | apply rngK_x | apply rngK_r | apply True.intro | apply And.intro True.intro True.intro)
 | (fail_if_success with_reducible apply K_id); (fail_if_success with_reducible apply awp_id); first | omega | (simp only [go_sem, seval, he507, he509]; done) | with_reducible assumption | (refine And.intro ?_ ?_) | (intro hg; simp_all; done) | grind)
            refine awp_cb (B' := decide (r509 = 4)) (by simp only [go_sem, seval, he507, he509] <;> eq_refl) (by first | rfl | (simp; done) | grind) (fun hc9 => ?_) (fun hc9 => ?_)
            · rw [hc9, cond_true] at h
              obtain rfl := Option.some.inj h
              repeat' (first
 | (with_reducible (first | apply awp_sr5 | apply awp_r5 | apply awp_sd | apply awp_d | apply inlR_n5 | apply inlR_r5); (· (first | exact Ctx.fn_ok hS | exact Ctx.rd_ok hS | assumption | exact True.intro)); iterate 2 (· (simp only [go_sem, seval, he507, he509] <;> eq_refl)))
 | with_reducible (first | apply awp_scp | apply awp_sn | apply awp_nop | apply awp_ret | apply awp_exit | apply awp_block | apply awp_seq | apply seqK_n | apply seqK_r | apply seqK_x | apply blkK_n | apply blkK_r | apply blkK_x)
 | (with_reducible apply blkK_y; (· first | rfl | decide))
 | (with_reducible apply cutK_o; (· simp))
 | with_reducible (first | apply backK_x | apply backK_r | apply asgK_n | apply rngK_x | apply rngK_r | apply True.intro | apply And.intro True.intro True.intro)
 | (fail_if_success with_reducible apply K_id); (fail_if_success with_reducible apply awp_id); first | omega | (simp only [go_sem, seval, he507, he509]; done) | with_reducible assumption | (refine And.intro ?_ ?_) | (intro hg; simp_all; done) | grind)
              first | refine endK_r (by simp only [go_sem, seval, he507, he509] <;> eq_refl) (by simp only [go_sem, seval, he507, he509]) (by simp only [go_sem, seval, he507, he509]) ?_ rfl | refine endK_n (by simp only [go_sem, seval, he507, he509] <;> eq_refl) (by simp only [go_sem, seval, he507, he509]) (by simp only [go_sem, seval, he507, he509]) ?_ rfl
              first | (simp only [go_sem, seval, he507, he509]; done) | (simp only [go_sem, seval, he507, he509, List.map_append, List.map_cons, List.map_nil, List.map_set, List.map_take, List.map_drop]; done) | (simp [he507, he509]; done)
            · rw [hc9, cond_false] at h
              try simp only [gd_some, Option.bind_eq_some_iff] at h
              obtain ⟨⟨x676, x677⟩, hn677, h⟩ := h
              have hx677 : [(n333, at334)].getD (IntKind.wrap .i64 0).toNat (0, 0) = (x676, x677) := ixs hn677 _
              have hq677 : rowAt [[.i n333, .i at334]] [.i 0, .i 0] (IntKind.wrap .i64 0).toNat = [.i x676, .i x677] := by have hq := rb_row2 [(n333, at334)] ((IntKind.wrap .i64 0).toNat); rw [hx677] at hq; exact hq
              have hb677 := (nth_some hn677).1
              try simp only [List.length_cons, List.length_nil] at hb677
              obtain rfl := Option.some.inj h
              repeat' (first
 | (with_reducible (first | apply awp_sr5 | apply awp_r5 | apply awp_sd | apply awp_d | apply inlR_n5 | apply inlR_r5); (· (first | exact Ctx.fn_ok hS | exact Ctx.rd_ok hS | assumption | exact True.intro)); iterate 2 (· (simp only [go_sem, seval, he507, he509, hx677, hq677] <;> eq_refl)))
 | with_reducible (first | apply awp_scp | apply awp_sn | apply awp_nop | apply awp_ret | apply awp_exit | apply awp_block | apply awp_seq | apply seqK_n | apply seqK_r | apply seqK_x | apply blkK_n | apply blkK_r | apply blkK_x)
 | (with_reducible apply blkK_y; (· first | rfl | decide))
 | (with_reducible apply cutK_o; (· simp))
 | with_reducible (first | apply backK_x | apply backK_r | apply asgK_n | apply rngK_x | apply rngK_r | apply True.intro | apply And.intro True.intro True.intro)
 | (fail_if_success with_reducible apply K_id); (fail_if_success with_reducible apply awp_id); first | omega | (simp only [go_sem, seval, he507, he509, hx677, hq677]; done) | with_reducible assumption | (refine And.intro ?_ ?_) | (intro hg; simp_all; done) | grind)
              first | refine endK_r (by simp only [go_sem, seval, he507, he509, hx677, hq677] <;> eq_refl) (by simp only [go_sem, seval, he507, he509, hx677, hq677]) (by simp only [go_sem, seval, he507, he509, hx677, hq677]) ?_ rfl | refine endK_n (by simp only [go_sem, seval, he507, he509, hx677, hq677] <;> eq_refl) (by simp only [go_sem, seval, he507, he509, hx677, hq677]) (by simp only [go_sem, seval, he507, he509, hx677, hq677]) ?_ rfl
              first | (simp only [go_sem, seval, he507, he509, hx677, hq677]; done) | (simp only [go_sem, seval, he507, he509, hx677, hq677, List.map_append, List.map_cons, List.map_nil, List.map_set, List.map_take, List.map_drop]; done) | (simp [he507, he509, hx677, hq677]; done)
  · rw [hc2, cond_false] at h
    try simp only [gd_some, Option.bind_eq_some_iff] at h
    obtain ⟨hv10, hv11, r679, hr679, hv12, r681, hr681, h⟩ := h
    have he679 := Option.some.inj hr679
    have he681 := Option.some.inj hr681
    repeat' (first
 | (with_reducible (first | apply awp_sr5 | apply awp_r5 | apply awp_sd | apply awp_d | apply inlR_n5 | apply inlR_r5); (· (first | exact Ctx.fn_ok hS | exact Ctx.rd_ok hS | assumption | exact True.intro)); iterate 2 (· (simp only [go_sem, seval, he679, he681] <;> eq_refl)))
 | with_reducible (first | apply awp_scp | apply awp_sn | apply awp_nop | apply awp_ret | apply awp_exit | apply awp_block | apply awp_seq | apply seqK_n | apply seqK_r | apply seqK_x | apply blkK_n | apply blkK_r | apply blkK_x)
 | (with_reducible apply blkK_y; (· first | rfl | decide))
 | (with_reducible apply cutK_o; (· simp))
 | with_reducible (first | apply backK_x | apply backK_r | apply asgK_n | apply rngK_x | apply rngK_r | apply True.intro | apply And.intro True.intro True.intro)
 | (fail_if_success with_reducible apply K_id); (fail_if_success with_reducible apply awp_id); first | omega | (simp only [go_sem, seval, he679, he681]; done) | with_reducible assumption | (refine And.intro ?_ ?_) | (intro hg; simp_all; done) | grind)
    refine awp_cb (B' := decide (r681 = 0)) (by simp only [go_sem, seval, he679, he681] <;> eq_refl) (by first | rfl | (simp; done) | grind) (fun hc13 => ?_) (fun hc13 => ?_)
    · rw [hc13, cond_true] at h
      obtain rfl := Option.some.inj h
      repeat' (first
 | (with_reducible (first | apply awp_sr5 | apply awp_r5 | apply awp_sd | apply awp_d | apply inlR_n5 | apply inlR_r5); (· (first | exact Ctx.fn_ok hS | exact Ctx.rd_ok hS | assumption | exact True.intro)); iterate 2 (· (simp only [go_sem, seval, he679, he681] <;> eq_refl)))
 | with_reducible (first | apply awp_scp | apply awp_sn | apply awp_nop | apply awp_ret | apply awp_exit | apply awp_block | apply awp_seq | apply seqK_n | apply seqK_r | apply seqK_x | apply blkK_n | apply blkK_r | apply blkK_x)
 | (with_reducible apply blkK_y; (· first | rfl | decide))
 | (with_reducible apply cutK_o; (· simp))
 | with_reducible (first | apply backK_x | apply backK_r | apply asgK_n | apply rngK_x | apply rngK_r | apply True.intro | apply And.intro True.intro True.intro)
 | (fail_if_success with_reducible apply K_id); (fail_if_success with_reducible apply awp_id); first | omega | (simp only [go_sem, seval, he679, he681]; done) | with_reducible assumption | (refine And.intro ?_ ?_) | (intro hg; simp_all; done) | grind)
      first | refine endK_r (by simp only [go_sem, seval, he679, he681] <;> eq_refl) (by simp only [go_sem, seval, he679, he681]) (by simp only [go_sem, seval, he679, he681]) ?_ rfl | refine endK_n (by simp only [go_sem, seval, he679, he681] <;> eq_refl) (by simp only [go_sem, seval, he679, he681]) (by simp only [go_sem, seval, he679, he681]) ?_ rfl
      first | (simp only [go_sem, seval, he679, he681]; done) | (simp only [go_sem, seval, he679, he681, List.map_append, List.map_cons, List.map_nil, List.map_set, List.map_take, List.map_drop]; done) | (simp [he679, he681]; done)
    · rw [hc13, cond_false] at h
      repeat' (first
 | (with_reducible (first | apply awp_sr5 | apply awp_r5 | apply awp_sd | apply awp_d | apply inlR_n5 | apply inlR_r5); (· (first | exact Ctx.fn_ok hS | exact Ctx.rd_ok hS | assumption | exact True.intro)); iterate 2 (· (simp only [go_sem, seval, he679, he681] <;> eq_refl)))
 | with_reducible (first | apply awp_scp | apply awp_sn | apply awp_nop | apply awp_ret | apply awp_exit | apply awp_block | apply awp_seq | apply seqK_n | apply seqK_r | apply seqK_x | apply blkK_n | apply blkK_r | apply blkK_x)
 | (with_reducible apply blkK_y; (· first | rfl | decide))
 | (with_reducible apply cutK_o; (· simp))
 | with_reducible (first | apply backK_x | apply backK_r | apply asgK_n | apply rngK_x | apply rngK_r | apply True.intro | apply And.intro True.intro True.intro)
 | (fail_if_success with_reducible apply K_id); (fail_if_success with_reducible apply awp_id); first | omega | (simp only [go_sem, seval, he679, he681]; done) | with_reducible assumption | (refine And.intro ?_ ?_) | (intro hg; simp_all; done) | grind)
      refine awp_cb (B' := decide (r681 = 1)) (by simp only [go_sem, seval, he679, he681] <;> eq_refl) (by first | rfl | (simp; done) | grind) (fun hc14 => ?_) (fun hc14 => ?_)
      · rw [hc14, cond_true] at h
        obtain rfl := Option.some.inj h
        repeat' (first
 | (with_reducible (first | apply awp_sr5 | apply awp_r5 | apply awp_sd | apply awp_d | apply inlR_n5 | apply inlR_r5); (· (first | exact Ctx.fn_ok hS | exact Ctx.rd_ok hS | assumption | exact True.intro)); iterate 2 (· (simp only [go_sem, seval, he679, he681] <;> eq_refl)))
 | with_reducible (first | apply awp_scp | apply awp_sn | apply awp_nop | apply awp_ret | apply awp_exit | apply awp_block | apply awp_seq | apply seqK_n | apply seqK_r | apply seqK_x | apply blkK_n | apply blkK_r | apply blkK_x)
 | (with_reducible apply blkK_y; (· first | rfl | decide))
 | (with_reducible apply cutK_o; (· simp))
 | with_reducible (first | apply backK_x | apply backK_r | apply asgK_n | apply rngK_x | apply rngK_r | apply True.intro | apply And.intro True.intro True.intro)
 | (fail_if_success with_reducible apply K_id); (fail_if_success with_reducible apply awp_id); first | omega | (simp only [go_sem, seval, he679, he681]; done) | with_reducible assumption | (refine And.intro ?_ ?_) | (intro hg; simp_all; done) | grind)
        first | refine endK_r (by simp only [go_sem, seval, he679, he681] <;> eq_refl) (by simp only [go_sem, seval, he679, he681]) (by simp only [go_sem, seval, he679, he681]) ?_ rfl | refine endK_n (by simp only [go_sem, seval, he679, he681] <;> eq_refl) (by simp only [go_sem, seval, he679, he681]) (by simp only [go_sem, seval, he679, he681]) ?_ rfl
        first | (simp only [go_sem, seval, he679, he681]; done) | (simp only [go_sem, seval, he679, he681, List.map_append, List.map_cons, List.map_nil, List.map_set, List.map_take, List.map_drop]; done) | (simp [he679, he681]; done)
      · rw [hc14, cond_false] at h
        repeat' (first
 | (with_reducible (first | apply awp_sr5 | apply awp_r5 | apply awp_sd | apply awp_d | apply inlR_n5 | apply inlR_r5); (· (first | exact Ctx.fn_ok hS | exact Ctx.rd_ok hS | assumption | exact True.intro)); iterate 2 (· (simp only [go_sem, seval, he679, he681] <;> eq_refl)))
 | with_reducible (first | apply awp_scp | apply awp_sn | apply awp_nop | apply awp_ret | apply awp_exit | apply awp_block | apply awp_seq | apply seqK_n | apply seqK_r | apply seqK_x | apply blkK_n | apply blkK_r | apply blkK_x)
 | (with_reducible apply blkK_y; (· first | rfl | decide))
 | (with_reducible apply cutK_o; (· simp))
 | with_reducible (first | apply backK_x | apply backK_r | apply asgK_n | apply rngK_x | apply rngK_r | apply True.intro | apply And.intro True.intro True.intro)
 | (fail_if_success with_reducible apply K_id); (fail_if_success with_reducible apply awp_id); first | omega | (simp only [go_sem, seval, he679, he681]; done) | with_reducible assumption | (refine And.intro ?_ ?_) | (intro hg; simp_all; done) | grind)
        refine awp_cb (B' := decide (r681 = 2)) (by simp only [go_sem, seval, he679, he681] <;> eq_refl) (by first | rfl | (simp; done) | grind) (fun hc15 => ?_) (fun hc15 => ?_)
        · rw [hc15, cond_true] at h
          try simp only [gd_some, Option.bind_eq_some_iff] at h
          obtain ⟨⟨x830, x831⟩, hn831, h⟩ := h
          have hx831 : g331.getD r679.toNat (0, 0) = (x830, x831) := ixs hn831 _
          have hb831 := (nth_some hn831).1
          obtain rfl := Option.some.inj h
          repeat' (first
 | (with_reducible (first | apply awp_sr5 | apply awp_r5 | apply awp_sd | apply awp_d | apply inlR_n5 | apply inlR_r5); (· (first | exact Ctx.fn_ok hS | exact Ctx.rd_ok hS | assumption | exact True.intro)); iterate 2 (· (simp only [go_sem, seval, he679, he681, hx831] <;> eq_refl)))
 | with_reducible (first | apply awp_scp | apply awp_sn | apply awp_nop | apply awp_ret | apply awp_exit | apply awp_block | apply awp_seq | apply seqK_n | apply seqK_r | apply seqK_x | apply blkK_n | apply blkK_r | apply blkK_x)
 | (with_reducible apply blkK_y; (· first | rfl | decide))
 | (with_reducible apply cutK_o; (· simp))
 | with_reducible (first | apply backK_x | apply backK_r | apply asgK_n | apply rngK_x | apply rngK_r | apply True.intro | apply And.intro True.intro True.intro)
 | (fail_if_success with_reducible apply K_id); (fail_if_success with_reducible apply awp_id); first | omega | (simp only [go_sem, seval, he679, he681, hx831]; done) | with_reducible assumption | (refine And.intro ?_ ?_) | (intro hg; simp_all; done) | grind)
          first | refine endK_r (by simp only [go_sem, seval, he679, he681, hx831] <;> eq_refl) (by simp only [go_sem, seval, he679, he681, hx831]) (by simp only [go_sem, seval, he679, he681, hx831]) ?_ rfl | refine endK_n (by simp only [go_sem, seval, he679, he681, hx831] <;> eq_refl) (by simp only [go_sem, seval, he679, he681, hx831]) (by simp only [go_sem, seval, he679, he681, hx831]) ?_ rfl
          first | (simp only [go_sem, seval, he679, he681, hx831]; done) | (simp only [go_sem, seval, he679, he681, hx831, List.map_append, List.map_cons, List.map_nil, List.map_set, List.map_take, List.map_drop]; done) | (simp [he679, he681, hx831]; done)
        · rw [hc15, cond_false] at h
          repeat' (first
 | (with_reducible (first | apply awp_sr5 | apply awp_r5 | apply awp_sd | apply awp_d | apply inlR_n5 | apply inlR_r5); (· (first | exact Ctx.fn_ok hS | exact Ctx.rd_ok hS | assumption | exact True.intro)); iterate 2 (· (simp only [go_sem, seval, he679, he681] <;> eq_refl)))
 | with_reducible (first | apply awp_scp | apply awp_sn | apply awp_nop | apply awp_ret | apply awp_exit | apply awp_block | apply awp_seq | apply seqK_n | apply seqK_r | apply seqK_x | apply blkK_n | apply blkK_r | apply blkK_x)
 | (with_reducible apply blkK_y; (· first | rfl | decide))
 | (with_reducible apply cutK_o; (· simp))
 | with_reducible (first | apply backK_x | apply backK_r | apply asgK_n | apply rngK_x | apply rngK_r | apply True.intro | apply And.intro True.intro True.intro)
 | (fail_if_success with_reducible apply K_id); (fail_if_success with_reducible apply awp_id); first | omega | (simp only [go_sem, seval, he679, he681]; done) | with_reducible assumption | (refine And.intro ?_ ?_) | (intro hg; simp_all; done) | grind)
          refine awp_cb (B' := decide (r681 = 3)) (by simp only [go_sem, seval, he679, he681] <;> eq_refl) (by first | rfl | (simp; done) | grind) (fun hc16 => ?_) (fun hc16 => ?_)
          · rw [hc16, cond_true] at h
            try simp only [gd_some, Option.bind_eq_some_iff] at h
            obtain ⟨⟨x842, x843⟩, hn843, h⟩ := h
            have hx843 : g331.getD r679.toNat (0, 0) = (x842, x843) := ixs hn843 _
            have hb843 := (nth_some hn843).1
            obtain rfl := Option.some.inj h
            repeat' (first
 | (with_reducible (first | apply awp_sr5 | apply awp_r5 | apply awp_sd | apply awp_d | apply inlR_n5 | apply inlR_r5); (· (first | exact Ctx.fn_ok hS | exact Ctx.rd_ok hS | assumption | exact True.intro)); iterate 2 (· (simp only [go_sem, seval, he679, he681, hx843] <;> eq_refl)))
 | with_reducible (first | apply awp_scp | apply awp_sn | apply awp_nop | apply awp_ret | apply awp_exit | apply awp_block | apply awp_seq | apply seqK_n | apply seqK_r | apply seqK_x | apply blkK_n | apply blkK_r | apply blkK_x)
 | (with_reducible apply blkK_y; (· first | rfl | decide))
 | (with_reducible apply cutK_o; (· simp))
 | with_reducible (first | apply backK_x | apply backK_r | apply asgK_n | apply rngK_x | apply rngK_r | apply True.intro | apply And.intro True.intro True.intro)
 | (fail_if_success with_reducible apply K_id); (fail_if_success with_reducible apply awp_id); first | omega | (simp only [go_sem, seval, he679, he681, hx843]; done) | with_reducible assumption | (refine And.intro ?_ ?_) | (intro hg; simp_all; done) | grind)
            first | refine endK_r (by simp only [go_sem, seval, he679, he681, hx843] <;> eq_refl) (by simp only [go_sem, seval, he679, he681, hx843]) (by simp only [go_sem, seval, he679, he681, hx843]) ?_ rfl | refine endK_n (by simp only [go_sem, seval, he679, he681, hx843] <;> eq_refl) (by simp only [go_sem, seval, he679, he681, hx843]) (by simp only [go_sem, seval, he679, he681, hx843]) ?_ rfl
            first | (simp only [go_sem, seval, he679, he681, hx843]; done) | (simp only [go_sem, seval, he679, he681, hx843, List.map_append, List.map_cons, List.map_nil, List.map_set, List.map_take, List.map_drop]; done) | (simp [he679, he681, hx843]; done)
          · rw [hc16, cond_false] at h
            repeat' (first
 | (with_reducible (first | apply awp_sr5 | apply awp_r5 | apply awp_sd | apply awp_d | apply inlR_n5 | apply inlR_r5); (· (first | exact Ctx.fn_ok hS | exact Ctx.rd_ok hS | assumption | exact True.intro)); iterate 2 (· (simp only [go_sem, seval, he679, he681] <;> eq_refl)))
 | with_reducible (first | apply awp_scp | apply awp_sn | apply awp_nop | apply awp_ret | apply awp_exit | apply awp_block | apply awp_seq | apply seqK_n | apply seqK_r | apply seqK_x | apply blkK_n | apply blkK_r | apply blkK_x)
 | (with_reducible apply blkK_y; (· first | rfl | decide))
 | (with_reducible apply cutK_o; (· simp))
 | with_reducible (first | apply backK_x | apply backK_r | apply asgK_n | apply rngK_x | apply rngK_r | apply True.intro | apply And.intro True.intro True.intro)
 | (fail_if_success with_reducible apply K_id); (fail_if_success with_reducible apply awp_id); first | omega | (simp only [go_sem, seval, he679, he681]; done) | with_reducible assumption | (refine And.intro ?_ ?_) | (intro hg; simp_all; done) | grind)
            refine awp_cb (B' := decide (r681 = 4)) (by simp only [go_sem, seval, he679, he681] <;> eq_refl) (by first | rfl | (simp; done) | grind) (fun hc17 => ?_) (fun hc17 => ?_)
            · rw [hc17, cond_true] at h
              obtain rfl := Option.some.inj h
              repeat' (first
 | (with_reducible (first | apply awp_sr5 | apply awp_r5 | apply awp_sd | apply awp_d | apply inlR_n5 | apply inlR_r5); (· (first | exact Ctx.fn_ok hS | exact Ctx.rd_ok hS | assumption | exact True.intro)); iterate 2 (· (simp only [go_sem, seval, he679, he681] <;> eq_refl)))
 | with_reducible (first | apply awp_scp | apply awp_sn | apply awp_nop | apply awp_ret | apply awp_exit | apply awp_block | apply awp_seq | apply seqK_n | apply seqK_r | apply seqK_x | apply blkK_n | apply blkK_r | apply blkK_x)
 | (with_reducible apply blkK_y; (· first | rfl | decide))
 | (with_reducible apply cutK_o; (· simp))
 | with_reducible (first | apply backK_x | apply backK_r | apply asgK_n | apply rngK_x | apply rngK_r | apply True.intro | apply And.intro True.intro True.intro)
 | (fail_if_success with_reducible apply K_id); (fail_if_success with_reducible apply awp_id); first | omega | (simp only [go_sem, seval, he679, he681]; done) | with_reducible assumption | (refine And.intro ?_ ?_) | (intro hg; simp_all; done) | grind)
              first | refine endK_r (by simp only [go_sem, seval, he679, he681] <;> eq_refl) (by simp only [go_sem, seval, he679, he681]) (by simp only [go_sem, seval, he679, he681]) ?_ rfl | refine endK_n (by simp only [go_sem, seval, he679, he681] <;> eq_refl) (by simp only [go_sem, seval, he679, he681]) (by simp only [go_sem, seval, he679, he681]) ?_ rfl
              first | (simp only [go_sem, seval, he679, he681]; done) | (simp only [go_sem, seval, he679, he681, List.map_append, List.map_cons, List.map_nil, List.map_set, List.map_take, List.map_drop]; done) | (simp [he679, he681]; done)
            · rw [hc17, cond_false] at h
              try simp only [gd_some, Option.bind_eq_some_iff] at h
              obtain ⟨⟨x848, x849⟩, hn849, h⟩ := h
              have hx849 : g331.getD (IntKind.wrap .i64 ((g331.length : Int) - 1)).toNat (0, 0) = (x848, x849) := ixs hn849 _
              have hb849 := (nth_some hn849).1
              try simp only [gd_some, Option.bind_eq_some_iff] at h
              obtain ⟨hv18, h⟩ := h
              obtain rfl := Option.some.inj h
              repeat' (first
 | (with_reducible (first | apply awp_sr5 | apply awp_r5 | apply awp_sd | apply awp_d | apply inlR_n5 | apply inlR_r5); (· (first | exact Ctx.fn_ok hS | exact Ctx.rd_ok hS | assumption | exact True.intro)); iterate 2 (· (simp only [go_sem, seval, he679, he681, hx849] <;> eq_refl)))
 | with_reducible (first | apply awp_scp | apply awp_sn | apply awp_nop | apply awp_ret | apply awp_exit | apply awp_block | apply awp_seq | apply seqK_n | apply seqK_r | apply seqK_x | apply blkK_n | apply blkK_r | apply blkK_x)
 | (with_reducible apply blkK_y; (· first | rfl | decide))
 | (with_reducible apply cutK_o; (· simp))
 | with_reducible (first | apply backK_x | apply backK_r | apply asgK_n | apply rngK_x | apply rngK_r | apply True.intro | apply And.intro True.intro True.intro)
 | (fail_if_success with_reducible apply K_id); (fail_if_success with_reducible apply awp_id); first | omega | (simp only [go_sem, seval, he679, he681, hx849]; done) | with_reducible assumption | (refine And.intro ?_ ?_) | (intro hg; simp_all; done) | grind)
              first | refine endK_r (by simp only [go_sem, seval, he679, he681, hx849] <;> eq_refl) (by simp only [go_sem, seval, he679, he681, hx849]) (by simp only [go_sem, seval, he679, he681, hx849]) ?_ rfl | refine endK_n (by simp only [go_sem, seval, he679, he681, hx849] <;> eq_refl) (by simp only [go_sem, seval, he679, he681, hx849]) (by simp only [go_sem, seval, he679, he681, hx849]) ?_ rfl
              first | (simp only [go_sem, seval, he679, he681, hx849]; done) | (simp only [go_sem, seval, he679, he681, hx849, List.map_append, List.map_cons, List.map_nil, List.map_set, List.map_take, List.map_drop]; done) | (simp [he679, he681, hx849]; done)
end

def s14 (N : Nat) : Spec
  | [.agg [.v (.int .i64 g327), .sl yg328 _ g328 _, .v (.int .i64 g329), .v (.int .i64 g330), .sl yg331 _ g331 _], .v (.int .i64 how332), .v (.int .i64 n333), .v (.int .i64 at334)] => some (((yg328 = 3 ∨ g328 = []) ∧ g328 = (g328.map dec3).map row3) ∧ ((yg331 = 2 ∨ g331 = []) ∧ g331 = (g331.map dec2).map row2) ∧ (D_putlogref24_Bent N g327 (g328.map dec3) g329 g330 (g331.map dec2) how332 n333 at334).isSome = true, .agg [.i ((((D_putlogref24_Bent N g327 (g328.map dec3) g329 g330 (g331.map dec2) how332 n333 at334).getD ((0, []), 0, 0, [])).1).1), .sl 3 false (((((D_putlogref24_Bent N g327 (g328.map dec3) g329 g330 (g331.map dec2) how332 n333 at334).getD ((0, []), 0, 0, [])).1).2).map row3) [.i 0, .i 0, .i 0], .i (((D_putlogref24_Bent N g327 (g328.map dec3) g329 g330 (g331.map dec2) how332 n333 at334).getD ((0, []), 0, 0, [])).2.1), .i (((D_putlogref24_Bent N g327 (g328.map dec3) g329 g330 (g331.map dec2) how332 n333 at334).getD ((0, []), 0, 0, [])).2.2.1), .sl 2 false ((((D_putlogref24_Bent N g327 (g328.map dec3) g329 g330 (g331.map dec2) how332 n333 at334).getD ((0, []), 0, 0, [])).2.2.2).map row2) [.i 0, .i 0]])
  | _ => none
theorem fok14 (N : Nat) : FOK Try.prog 14 (s14 N) := ⟨of14, by
  intro args vc r h hv
  unfold s14 at h
  split at h
  · cases h
    obtain ⟨⟨hy0, hr0⟩, ⟨hy1, hr1⟩, hs⟩ := hv
    obtain ⟨r, hr⟩ := Option.isSome_iff_exists.1 hs
    have hk := D_putlogref24_Bent_ok N _ _ _ _ _ _ _ _ r hr
    simp only [hr, Option.getD_some]
    refine PCall.arg ?_ hk
    simp only [wkL, wk, and_true, true_and, Bool.false_eq_true, false_implies, implies_true]
    repeat' (first | exact True.intro | assumption | apply And.intro)
  · simp at h⟩
end Go.Proofs.Ytmmfbjmjhjmccaa.Am
