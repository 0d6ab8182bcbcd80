import Derived.Test.YtmmfbjmjhjmccaaP2
namespace Go.Proofs.Ytmmfbjmjhjmccaa.Am
open Go
attribute [local irreducible] awp seqK blkK backK endK inlK restK rngK asgK itK
set_option maxRecDepth 100000
set_option maxHeartbeats 8000000
set_option linter.unusedSimpArgs false
set_option linter.unusedVariables false
theorem isIn_ok (t a b : Int) : PCall Try.prog 37 [.i t, .i a, .i b] (.b (decide (a ≤ t) && decide (t ≤ b))) := by
  refine pcall_fn S0_ok _ Try.func37 ok37 nt37 (by simp) fun hb => ?_
  have hS := S0_ok
  unfold ac37 rv37
  repeat' (first
    | ((first | with_reducible apply awp_sr5 | with_reducible apply awp_r5 | with_reducible apply awp_sd | with_reducible apply awp_d | with_reducible apply inlR_n5 | with_reducible apply inlR_r5); (· (first | exact Ctx.fn_ok hS | exact Ctx.rd_ok hS | assumption | exact True.intro)); iterate 2 (· (simp only [go_sem, seval] <;> eq_refl)))
    | (first | with_reducible apply awp_scp | with_reducible apply awp_sn | with_reducible apply awp_nop | with_reducible apply awp_ret | with_reducible apply awp_exit | with_reducible apply awp_block | with_reducible apply awp_seq | with_reducible apply seqK_n | with_reducible apply seqK_r | with_reducible apply seqK_x | with_reducible apply blkK_n | with_reducible apply blkK_r | with_reducible apply blkK_x)
    | (with_reducible apply blkK_y; (· first | rfl | decide))
    | (first | with_reducible apply backK_x | with_reducible apply backK_r | with_reducible apply asgK_n | with_reducible apply rngK_x | with_reducible apply rngK_r | with_reducible apply True.intro | with_reducible apply And.intro True.intro True.intro)
    | (fail_if_success with_reducible apply K_id); (fail_if_success with_reducible apply awp_id); first | omega | (simp only [go_sem, seval]; done)
    | fail)
  refine endK_r (by simp only [go_sem, seval] <;> eq_refl) (by simp only [go_sem, seval]) (by simp only [go_sem, seval]) ?_ rfl
  simp only [go_sem, seval]

/-- Readings of a clock. -/
abbrev Rd3 := Int × Int × Int
def row3 (r : Rd3) : List AV := [.i r.1, .i r.2.1, .i r.2.2]
def chainS : Int → List Rd3 → Bool
  | _, [] => true
  | l, (a, b, c) :: r => decide (l < a) && decide (a ≤ 10000000) && decide (0 ≤ b) && decide (b ≤ c) && decide (c ≤ 10000000) && chainS a r
def validC (d : Int) (R : List Rd3) : Bool := decide (0 ≤ d) && decide (d ≤ 100) && decide (R.length ≤ 12) && chainS (-1) R

theorem clockValid_ok (d : Int) (R : List Rd3) (f : Bool) (z : List AV) : PCall Try.prog 38 [.agg [.i d, .sl 3 f (R.map row3) z]] (.b (validC d R)) := by
  refine pcall_fn S0_ok _ Try.func38 ok38 nt38 (by simp) fun hb => ?_
  have hS := S0_ok
  unfold ac38 rv38
  have hlen : (R.map row3).length = R.length := by simp
  repeat' (first
    | ((first | with_reducible apply awp_sr5 | with_reducible apply awp_r5 | with_reducible apply awp_sd | with_reducible apply awp_d | with_reducible apply inlR_n5 | with_reducible apply inlR_r5); (· (first | exact Ctx.fn_ok hS | exact Ctx.rd_ok hS | assumption | exact True.intro)); iterate 2 (· (simp only [go_sem, seval] <;> eq_refl)))
    | (first | with_reducible apply awp_scp | with_reducible apply awp_sn | with_reducible apply awp_nop | with_reducible apply awp_ret | with_reducible apply awp_exit | with_reducible apply awp_block | with_reducible apply awp_seq | with_reducible apply seqK_n | with_reducible apply seqK_r | with_reducible apply seqK_x | with_reducible apply blkK_n | with_reducible apply blkK_r | with_reducible apply blkK_x)
    | (with_reducible apply blkK_y; (· first | rfl | decide))
    | (first | with_reducible apply backK_x | with_reducible apply backK_r | with_reducible apply asgK_n | with_reducible apply rngK_x | with_reducible apply rngK_r | with_reducible apply True.intro | with_reducible apply And.intro True.intro True.intro)
    | (fail_if_success with_reducible apply K_id); (fail_if_success with_reducible apply awp_id); first | omega | (simp only [go_sem, seval]; done)
    | fail)
  refine awp_c (by simp only [go_sem, seval] <;> eq_refl) (fun h => ?_) (fun h => ?_)
  · repeat' (first
    | ((first | with_reducible apply awp_sr5 | with_reducible apply awp_r5 | with_reducible apply awp_sd | with_reducible apply awp_d | with_reducible apply inlR_n5 | with_reducible apply inlR_r5); (· (first | exact Ctx.fn_ok hS | exact Ctx.rd_ok hS | assumption | exact True.intro)); iterate 2 (· (simp only [go_sem, seval] <;> eq_refl)))
    | (first | with_reducible apply awp_scp | with_reducible apply awp_sn | with_reducible apply awp_nop | with_reducible apply awp_ret | with_reducible apply awp_exit | with_reducible apply awp_block | with_reducible apply awp_seq | with_reducible apply seqK_n | with_reducible apply seqK_r | with_reducible apply seqK_x | with_reducible apply blkK_n | with_reducible apply blkK_r | with_reducible apply blkK_x)
    | (with_reducible apply blkK_y; (· first | rfl | decide))
    | (first | with_reducible apply backK_x | with_reducible apply backK_r | with_reducible apply asgK_n | with_reducible apply rngK_x | with_reducible apply rngK_r | with_reducible apply True.intro | with_reducible apply And.intro True.intro True.intro)
    | (fail_if_success with_reducible apply K_id); (fail_if_success with_reducible apply awp_id); first | omega | (simp only [go_sem, seval]; done)
    | fail)
    refine endK_r (by simp only [go_sem, seval] <;> eq_refl) (by simp only [go_sem, seval]) (by simp only [go_sem, seval]) ?_ rfl
    have : validC d R = false := by
      simp at h
      simp [validC]
      omega
    simp only [this, go_sem, seval]
  · have h' : 0 ≤ d ∧ d ≤ 100 ∧ R.length ≤ 12 := by simp at h; omega
    repeat' (first
    | ((first | with_reducible apply awp_sr5 | with_reducible apply awp_r5 | with_reducible apply awp_sd | with_reducible apply awp_d | with_reducible apply inlR_n5 | with_reducible apply inlR_r5); (· (first | exact Ctx.fn_ok hS | exact Ctx.rd_ok hS | assumption | exact True.intro)); iterate 2 (· (simp only [go_sem, seval] <;> eq_refl)))
    | (first | with_reducible apply awp_scp | with_reducible apply awp_sn | with_reducible apply awp_nop | with_reducible apply awp_ret | with_reducible apply awp_exit | with_reducible apply awp_block | with_reducible apply awp_seq | with_reducible apply seqK_n | with_reducible apply seqK_r | with_reducible apply seqK_x | with_reducible apply blkK_n | with_reducible apply blkK_r | with_reducible apply blkK_x)
    | (with_reducible apply blkK_y; (· first | rfl | decide))
    | (first | with_reducible apply backK_x | with_reducible apply backK_r | with_reducible apply asgK_n | with_reducible apply rngK_x | with_reducible apply rngK_r | with_reducible apply True.intro | with_reducible apply And.intro True.intro True.intro)
    | (fail_if_success with_reducible apply K_id); (fail_if_success with_reducible apply awp_id); first | omega | (simp only [go_sem, seval]; done)
    | fail)
    refine awp_loop (fun x : Nat × Int × Nat => ⟨[(23, .i x.1), (3, .i x.2.1), (22, .i R.length), (21, .sl 3 f (R.map row3) z)], [], x.2.2⟩) (fun x => x.1 ≤ R.length ∧ validC d R = chainS x.2.1 (R.drop x.1)) (fun x => R.length - x.1) (0, -1, 5) ?_ ?_ ?_
    · simp [validC]; omega
    · refine ⟨?_, ?_, ?_⟩
      · simp only [go_sem, seval, hlen]
      · simp only [go_sem, seval]
      · simp
    · rintro ⟨k, l, c⟩ ⟨hk, hv⟩
      simp only at hk hv
      repeat' (first
    | ((first | with_reducible apply awp_sr5 | with_reducible apply awp_r5 | with_reducible apply awp_sd | with_reducible apply awp_d | with_reducible apply inlR_n5 | with_reducible apply inlR_r5); (· (first | exact Ctx.fn_ok hS | exact Ctx.rd_ok hS | assumption | exact True.intro)); iterate 2 (· (simp only [go_sem, seval] <;> eq_refl)))
    | (first | with_reducible apply awp_scp | with_reducible apply awp_sn | with_reducible apply awp_nop | with_reducible apply awp_ret | with_reducible apply awp_exit | with_reducible apply awp_block | with_reducible apply awp_seq | with_reducible apply seqK_n | with_reducible apply seqK_r | with_reducible apply seqK_x | with_reducible apply blkK_n | with_reducible apply blkK_r | with_reducible apply blkK_x)
    | (with_reducible apply blkK_y; (· first | rfl | decide))
    | (first | with_reducible apply backK_x | with_reducible apply backK_r | with_reducible apply asgK_n | with_reducible apply rngK_x | with_reducible apply rngK_r | with_reducible apply True.intro | with_reducible apply And.intro True.intro True.intro)
    | (fail_if_success with_reducible apply K_id); (fail_if_success with_reducible apply awp_id); first | omega | (simp only [go_sem, seval]; done)
    | fail)
      refine awp_cd (by simp only [go_sem, seval] <;> eq_refl) (fun h1 => ?_) (fun h1 => ?_)
      · have hk' : k < R.length := by simp at h1; omega
        obtain ⟨⟨a, b, g⟩, hr⟩ : ∃ r, R[k] = r := ⟨_, rfl⟩
        have hrow : rowAt (R.map row3) z k = [.i a, .i b, .i g] := by
          simp [rowAt, List.getD_eq_getElem?_getD, hk', hr, row3]
        have hdrop : R.drop k = (a, b, g) :: R.drop (k + 1) := by rw [List.drop_eq_getElem_cons hk', hr]
        repeat' (first
    | ((first | with_reducible apply awp_sr5 | with_reducible apply awp_r5 | with_reducible apply awp_sd | with_reducible apply awp_d | with_reducible apply inlR_n5 | with_reducible apply inlR_r5); (· (first | exact Ctx.fn_ok hS | exact Ctx.rd_ok hS | assumption | exact True.intro)); iterate 2 (· (simp only [go_sem, seval, hrow] <;> eq_refl)))
    | (first | with_reducible apply awp_scp | with_reducible apply awp_sn | with_reducible apply awp_nop | with_reducible apply awp_ret | with_reducible apply awp_exit | with_reducible apply awp_block | with_reducible apply awp_seq | with_reducible apply seqK_n | with_reducible apply seqK_r | with_reducible apply seqK_x | with_reducible apply blkK_n | with_reducible apply blkK_r | with_reducible apply blkK_x)
    | (with_reducible apply blkK_y; (· first | rfl | decide))
    | (first | with_reducible apply backK_x | with_reducible apply backK_r | with_reducible apply asgK_n | with_reducible apply rngK_x | with_reducible apply rngK_r | with_reducible apply True.intro | with_reducible apply And.intro True.intro True.intro)
    | (fail_if_success with_reducible apply K_id); (fail_if_success with_reducible apply awp_id); first | omega | (simp only [go_sem, seval, hrow]; done)
    | fail)
        refine awp_c (by simp only [go_sem, seval] <;> eq_refl) (fun h2 => ?_) (fun h2 => ?_)
        · repeat' (first
    | ((first | with_reducible apply awp_sr5 | with_reducible apply awp_r5 | with_reducible apply awp_sd | with_reducible apply awp_d | with_reducible apply inlR_n5 | with_reducible apply inlR_r5); (· (first | exact Ctx.fn_ok hS | exact Ctx.rd_ok hS | assumption | exact True.intro)); iterate 2 (· (simp only [go_sem, seval] <;> eq_refl)))
    | (first | with_reducible apply awp_scp | with_reducible apply awp_sn | with_reducible apply awp_nop | with_reducible apply awp_ret | with_reducible apply awp_exit | with_reducible apply awp_block | with_reducible apply awp_seq | with_reducible apply seqK_n | with_reducible apply seqK_r | with_reducible apply seqK_x | with_reducible apply blkK_n | with_reducible apply blkK_r | with_reducible apply blkK_x)
    | (with_reducible apply blkK_y; (· first | rfl | decide))
    | (first | with_reducible apply backK_x | with_reducible apply backK_r | with_reducible apply asgK_n | with_reducible apply rngK_x | with_reducible apply rngK_r | with_reducible apply True.intro | with_reducible apply And.intro True.intro True.intro)
    | (fail_if_success with_reducible apply K_id); (fail_if_success with_reducible apply awp_id); first | omega | (simp only [go_sem, seval]; done)
    | fail)
          refine endK_r (by simp only [go_sem, seval] <;> eq_refl) (by simp only [go_sem, seval]) (by simp only [go_sem, seval]) ?_ rfl
          have : chainS l (R.drop k) = false := by
            rw [hdrop]
            simp only [chainS]
            simp at h2 ⊢
            try omega
          simp only [hv, this, go_sem, seval]
        · repeat' (first
    | ((first | with_reducible apply awp_sr5 | with_reducible apply awp_r5 | with_reducible apply awp_sd | with_reducible apply awp_d | with_reducible apply inlR_n5 | with_reducible apply inlR_r5); (· (first | exact Ctx.fn_ok hS | exact Ctx.rd_ok hS | assumption | exact True.intro)); iterate 2 (· (simp only [go_sem, seval] <;> eq_refl)))
    | (first | with_reducible apply awp_scp | with_reducible apply awp_sn | with_reducible apply awp_nop | with_reducible apply awp_ret | with_reducible apply awp_exit | with_reducible apply awp_block | with_reducible apply awp_seq | with_reducible apply seqK_n | with_reducible apply seqK_r | with_reducible apply seqK_x | with_reducible apply blkK_n | with_reducible apply blkK_r | with_reducible apply blkK_x)
    | (with_reducible apply blkK_y; (· first | rfl | decide))
    | (first | with_reducible apply backK_x | with_reducible apply backK_r | with_reducible apply asgK_n | with_reducible apply rngK_x | with_reducible apply rngK_r | with_reducible apply True.intro | with_reducible apply And.intro True.intro True.intro)
    | (fail_if_success with_reducible apply K_id); (fail_if_success with_reducible apply awp_id); first | omega | (simp only [go_sem, seval]; done)
    | fail)
          refine backK_n (k + 1, a, c + 6) ⟨by omega, ?_⟩ (by show R.length - (k + 1) < R.length - k; omega) ⟨?_, ?_, ?_⟩
          · show _ = chainS a (R.drop (k + 1))
            rw [hv, hdrop]
            simp only [chainS]
            simp at h2
            simp [h2]
            try omega
          · simp only [go_sem, seval] <;> simp
          · simp only [go_sem, seval]
          · simp
      · repeat' (first
    | ((first | with_reducible apply awp_sr5 | with_reducible apply awp_r5 | with_reducible apply awp_sd | with_reducible apply awp_d | with_reducible apply inlR_n5 | with_reducible apply inlR_r5); (· (first | exact Ctx.fn_ok hS | exact Ctx.rd_ok hS | assumption | exact True.intro)); iterate 2 (· (simp only [go_sem, seval] <;> eq_refl)))
    | (first | with_reducible apply awp_scp | with_reducible apply awp_sn | with_reducible apply awp_nop | with_reducible apply awp_ret | with_reducible apply awp_exit | with_reducible apply awp_block | with_reducible apply awp_seq | with_reducible apply seqK_n | with_reducible apply seqK_r | with_reducible apply seqK_x | with_reducible apply blkK_n | with_reducible apply blkK_r | with_reducible apply blkK_x)
    | (with_reducible apply blkK_y; (· first | rfl | decide))
    | (first | with_reducible apply backK_x | with_reducible apply backK_r | with_reducible apply asgK_n | with_reducible apply rngK_x | with_reducible apply rngK_r | with_reducible apply True.intro | with_reducible apply And.intro True.intro True.intro)
    | (fail_if_success with_reducible apply K_id); (fail_if_success with_reducible apply awp_id); first | omega | (simp only [go_sem, seval]; done)
    | fail)
        refine endK_r (by simp only [go_sem, seval] <;> eq_refl) (by simp only [go_sem, seval]) (by simp only [go_sem, seval]) ?_ rfl
        have hk' : k = R.length := by simp at h1; omega
        have : validC d R = true := by rw [hv, hk']; simp [chainS]
        simp only [this, go_sem, seval]
end Go.Proofs.Ytmmfbjmjhjmccaa.Am
