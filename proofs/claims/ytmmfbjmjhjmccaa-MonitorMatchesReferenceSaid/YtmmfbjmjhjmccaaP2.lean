import Derived.Test.YtmmfbjmjhjmccaaP1
namespace Go.Proofs.Ytmmfbjmjhjmccaa.Am
open Go
attribute [local irreducible] awp seqK blkK backK endK inlK restK rngK asgK itK
set_option maxRecDepth 100000
set_option maxHeartbeats 8000000
set_option linter.unusedSimpArgs false
set_option linter.unusedVariables false
def spreadS (d t : Int) : Int × Int := if d < 0 ∨ 100 < d ∨ t < 0 ∨ 10000000 < t then (0, 0) else (if 0 < t then (1000 * (t - 1)).tdiv (1000 + d) + 1 else 0, (1000 * (t + 1) - 1).tdiv (1000 - d))

theorem tdiv_bd {a b : Int} (ha : 0 ≤ a) (hb : 0 < b) : 0 ≤ a.tdiv b ∧ a.tdiv b ≤ a :=
  ⟨Int.tdiv_nonneg ha (by omega), by rw [Int.tdiv_eq_ediv_of_nonneg ha]; exact Int.ediv_le_self _ ha⟩

theorem spread_ok (d t : Int) : PCall Try.prog 55 [.i d, .i t] (.tup [.i (spreadS d t).1, .i (spreadS d t).2]) := by
  refine pcall_fn S0_ok _ Try.func55 ok55 nt55 (by simp) fun hb => ?_
  have hS := S0_ok
  unfold ac55 rv55
  repeat' (first
    | ((first | with_reducible apply awp_sr5 | with_reducible apply awp_r5 | with_reducible apply awp_sd | with_reducible apply awp_d | with_reducible apply inlR_n5 | with_reducible apply inlR_r5); (· (first | exact Ctx.fn_ok hS | exact Ctx.rd_ok hS | assumption | exact True.intro)); iterate 2 (· (simp only [go_sem, seval] <;> eq_refl)))
    | (first | with_reducible apply awp_scp | with_reducible apply awp_sn | with_reducible apply awp_nop | with_reducible apply awp_ret | with_reducible apply awp_exit | with_reducible apply awp_block | with_reducible apply awp_seq | with_reducible apply seqK_n | with_reducible apply seqK_r | with_reducible apply seqK_x | with_reducible apply blkK_n | with_reducible apply blkK_r | with_reducible apply blkK_x)
    | (with_reducible apply blkK_y; (· first | rfl | decide))
    | (first | with_reducible apply backK_x | with_reducible apply backK_r | with_reducible apply asgK_n | with_reducible apply rngK_x | with_reducible apply rngK_r | with_reducible apply True.intro | with_reducible apply And.intro True.intro True.intro)
    | (fail_if_success with_reducible apply K_id); (fail_if_success with_reducible apply awp_id); first | omega | (simp only [go_sem, seval]; done)
    | fail)
  refine awp_c (by simp only [go_sem, seval] <;> eq_refl) (fun h => ?_) (fun h => ?_)
  · repeat' (first
    | ((first | with_reducible apply awp_sr5 | with_reducible apply awp_r5 | with_reducible apply awp_sd | with_reducible apply awp_d | with_reducible apply inlR_n5 | with_reducible apply inlR_r5); (· (first | exact Ctx.fn_ok hS | exact Ctx.rd_ok hS | assumption | exact True.intro)); iterate 2 (· (simp only [go_sem, seval] <;> eq_refl)))
    | (first | with_reducible apply awp_scp | with_reducible apply awp_sn | with_reducible apply awp_nop | with_reducible apply awp_ret | with_reducible apply awp_exit | with_reducible apply awp_block | with_reducible apply awp_seq | with_reducible apply seqK_n | with_reducible apply seqK_r | with_reducible apply seqK_x | with_reducible apply blkK_n | with_reducible apply blkK_r | with_reducible apply blkK_x)
    | (with_reducible apply blkK_y; (· first | rfl | decide))
    | (first | with_reducible apply backK_x | with_reducible apply backK_r | with_reducible apply asgK_n | with_reducible apply rngK_x | with_reducible apply rngK_r | with_reducible apply True.intro | with_reducible apply And.intro True.intro True.intro)
    | (fail_if_success with_reducible apply K_id); (fail_if_success with_reducible apply awp_id); first | omega | (simp only [go_sem, seval]; done)
    | fail)
    refine endK_r (by simp only [go_sem, seval] <;> eq_refl) (by simp only [go_sem, seval]) (by simp only [go_sem, seval]) ?_ rfl
    have h' : d < 0 ∨ 100 < d ∨ t < 0 ∨ 10000000 < t := by
      simp at h
      omega
    simp only [spreadS, if_pos h', go_sem, seval]
  · have h' : 0 ≤ d ∧ d ≤ 100 ∧ 0 ≤ t ∧ t ≤ 10000000 := by
      simp at h
      omega
    have h2 : ¬ (d < 0 ∨ 100 < d ∨ t < 0 ∨ 10000000 < t) := by omega
    repeat' (first
    | ((first | with_reducible apply awp_sr5 | with_reducible apply awp_r5 | with_reducible apply awp_sd | with_reducible apply awp_d | with_reducible apply inlR_n5 | with_reducible apply inlR_r5); (· (first | exact Ctx.fn_ok hS | exact Ctx.rd_ok hS | assumption | exact True.intro)); iterate 2 (· (simp only [go_sem, seval] <;> eq_refl)))
    | (first | with_reducible apply awp_scp | with_reducible apply awp_sn | with_reducible apply awp_nop | with_reducible apply awp_ret | with_reducible apply awp_exit | with_reducible apply awp_block | with_reducible apply awp_seq | with_reducible apply seqK_n | with_reducible apply seqK_r | with_reducible apply seqK_x | with_reducible apply blkK_n | with_reducible apply blkK_r | with_reducible apply blkK_x)
    | (with_reducible apply blkK_y; (· first | rfl | decide))
    | (first | with_reducible apply backK_x | with_reducible apply backK_r | with_reducible apply asgK_n | with_reducible apply rngK_x | with_reducible apply rngK_r | with_reducible apply True.intro | with_reducible apply And.intro True.intro True.intro)
    | (fail_if_success with_reducible apply K_id); (fail_if_success with_reducible apply awp_id); first | omega | (simp only [go_sem, seval]; done)
    | fail)
    refine awp_cd (by simp only [go_sem, seval] <;> eq_refl) (fun h3 => ?_) (fun h3 => ?_)
    · have q1 := tdiv_bd (a := 1000 * (t - 1)) (b := 1000 + d) (by omega) (by omega)
      have q2 := tdiv_bd (a := 1000 * (t + 1) - 1) (b := 1000 - d) (by omega) (by omega)
      repeat' (first
    | ((first | with_reducible apply awp_sr5 | with_reducible apply awp_r5 | with_reducible apply awp_sd | with_reducible apply awp_d | with_reducible apply inlR_n5 | with_reducible apply inlR_r5); (· (first | exact Ctx.fn_ok hS | exact Ctx.rd_ok hS | assumption | exact True.intro)); iterate 2 (· (simp only [go_sem, seval] <;> eq_refl)))
    | (first | with_reducible apply awp_scp | with_reducible apply awp_sn | with_reducible apply awp_nop | with_reducible apply awp_ret | with_reducible apply awp_exit | with_reducible apply awp_block | with_reducible apply awp_seq | with_reducible apply seqK_n | with_reducible apply seqK_r | with_reducible apply seqK_x | with_reducible apply blkK_n | with_reducible apply blkK_r | with_reducible apply blkK_x)
    | (with_reducible apply blkK_y; (· first | rfl | decide))
    | (first | with_reducible apply backK_x | with_reducible apply backK_r | with_reducible apply asgK_n | with_reducible apply rngK_x | with_reducible apply rngK_r | with_reducible apply True.intro | with_reducible apply And.intro True.intro True.intro)
    | (fail_if_success with_reducible apply K_id); (fail_if_success with_reducible apply awp_id); first | omega | (simp only [go_sem, seval]; done)
    | fail)
      · refine endK_r (by simp only [go_sem, seval] <;> eq_refl) (by simp only [go_sem, seval]) (by simp only [go_sem, seval]) ?_ rfl
        simp only [spreadS, if_neg h2, if_pos h3, go_sem, seval]
    · have q2 := tdiv_bd (a := 1000 * (t + 1) - 1) (b := 1000 - d) (by omega) (by omega)
      repeat' (first
    | ((first | with_reducible apply awp_sr5 | with_reducible apply awp_r5 | with_reducible apply awp_sd | with_reducible apply awp_d | with_reducible apply inlR_n5 | with_reducible apply inlR_r5); (· (first | exact Ctx.fn_ok hS | exact Ctx.rd_ok hS | assumption | exact True.intro)); iterate 2 (· (simp only [go_sem, seval] <;> eq_refl)))
    | (first | with_reducible apply awp_scp | with_reducible apply awp_sn | with_reducible apply awp_nop | with_reducible apply awp_ret | with_reducible apply awp_exit | with_reducible apply awp_block | with_reducible apply awp_seq | with_reducible apply seqK_n | with_reducible apply seqK_r | with_reducible apply seqK_x | with_reducible apply blkK_n | with_reducible apply blkK_r | with_reducible apply blkK_x)
    | (with_reducible apply blkK_y; (· first | rfl | decide))
    | (first | with_reducible apply backK_x | with_reducible apply backK_r | with_reducible apply asgK_n | with_reducible apply rngK_x | with_reducible apply rngK_r | with_reducible apply True.intro | with_reducible apply And.intro True.intro True.intro)
    | (fail_if_success with_reducible apply K_id); (fail_if_success with_reducible apply awp_id); first | omega | (simp only [go_sem, seval]; done)
    | fail)
      · refine endK_r (by simp only [go_sem, seval] <;> eq_refl) (by simp only [go_sem, seval]) (by simp only [go_sem, seval]) ?_ rfl
        simp only [spreadS, if_neg h2, if_neg h3, go_sem, seval]
end Go.Proofs.Ytmmfbjmjhjmccaa.Am
