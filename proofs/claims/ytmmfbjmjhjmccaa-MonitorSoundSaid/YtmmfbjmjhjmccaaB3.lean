/-
  Proves MonitorSound: for every input the law returns true, and the arguments read as before. No condition.
-/
import Derived.Test.YtmmfbjmjhjmccaaP12
import Derived.Test.YtmmfbjmjhjmccaaM5
import Derived.Test.YtmmfbjmjhjmccaaRows
import Derived.ProofKit
namespace Go.Proofs.Ytmmfbjmjhjmccaa.Am
open Go
attribute [local irreducible] awp seqK blkK backK endK inlK restK rngK asgK itK
set_option maxRecDepth 100000
set_option maxHeartbeats 8000000
set_option linter.unusedSimpArgs false
set_option linter.unusedVariables false
attribute [local irreducible] made24 foundS valueS alarmS
def S42 : List (Nat × Spec) := [(11, sSane), (12, sMade24), (15, sPick), (28, sValue), (18, sBounds), (16, sMonValid), (24, sOver), (26, sAlarm)]
theorem S42_ok : TabOK Try.prog (tabOf S42) := tab_cons sane_fok (tab_cons made24_fok (tab_cons pick_fok (tab_cons value_fok (tab_cons bounds_fok (tab_cons monValid_fok (tab_cons over_fok (tab_cons alarm_fok tab_nil)))))))

/-- MonitorSound. -/
theorem lawSound (x : Sty) (hx : x.In) (t limit fro many : Int) (ht : inI t) (hli : inI limit) (hfr : inI fro) (hma : inI many) : PCall Try.prog 4 [.agg (stCells x false false false false [] [] [] []), .i t, .i limit, .i fro, .i many] (.b true) := by
  refine pcall_fn S42_ok _ Try.func4 ok4 nt4 (by simp) fun _ => ?_
  have hS := S42_ok
  unfold ac4 rv4
  have hx1 : Sty.In ⟨x.drift, x.start, x.rates, x.rd, x.tol, x.rate, x.first, x.steps, x.sm⟩ := hx
  have hpt := @pick_bd t 400 (by omega)
  obtain ⟨s, hs⟩ : ∃ s, pickS t 400 = s := ⟨_, rfl⟩
  rw [hs] at hpt
  have hp1 := @pick_bd fro 300 (by omega)
  have hp2 := @pick_bd many 60 (by omega)
  have hp3 := @pick_bd limit 401 (by omega)
  obtain ⟨fr, hf⟩ : ∃ s, pickS fro 300 = s := ⟨_, rfl⟩
  obtain ⟨q, hq⟩ : ∃ s, pickS many 60 = s := ⟨_, rfl⟩
  obtain ⟨r, hr⟩ : ∃ s, pickS limit 401 = s := ⟨_, rfl⟩
  rw [hf] at hp1
  rw [hq] at hp2
  rw [hr] at hp3
  have hlA := (made24_S x).1
  have hvA := made24_valid x
  obtain ⟨l, h, a1, a2, a3, a4, a5, a6⟩ := bounds_sound x (t := s) (by omega)
  obtain ⟨V, hV⟩ : ∃ V, valueS x.rate x.first x.steps = V := ⟨_, rfl⟩
  have hVb := fun i => valueS_bd x.rate x.first x.steps i
  rw [hV] at a5 a6 hVb
  have hvs := hVb s.toNat
  obtain ⟨n, hn⟩ : ∃ n, V s.toNat + r - 200 = n := ⟨_, rfl⟩
  obtain ⟨su, m, c1, c2, c3⟩ := alarm_sound x (limit := n) (fr := fr) (to := fr + 1 + q) (by omega)
  rw [hV] at c2 c3
  obtain ⟨A, hA⟩ : ∃ A, made24 ⟨x.drift, x.start, x.rates, x.rd, x.tol, x.rate, x.first, x.steps, x.sm⟩ = A := ⟨_, rfl⟩
  have hA' : made24 x = A := hA
  rw [hA'] at hlA a1 hvA c1
  have lA : A.S.length ≤ 1000 := by omega
  obtain ⟨o, ho, ho1⟩ : ∃ o, overS A n fr (fr + 1 + q) = (o, 0) ∧ (o = 0 → m < 0) := by
    unfold overS
    rw [c1]
    simp only [ne_eq, not_true_eq_false, if_false]
    split
    · exact ⟨2, rfl, by omega⟩
    · split
      · exact ⟨1, rfl, by omega⟩
      · exact ⟨0, rfl, by omega⟩
  have hfrI : -9223372036854775808 ≤ fr ∧ fr + 1 + q ≤ 9223372036854775807 := by omega
  have hsI : 0 ≤ s ∧ s ≤ 100000 := by omega
  obtain ⟨d, R, tol0, rate0, S⟩ := A
  simp only at lA hlA
  simp only [stCells]
  repeat' (first
    | ((first | with_reducible apply awp_sr5 | with_reducible apply awp_r5 | with_reducible apply awp_sd | with_reducible apply awp_d | with_reducible apply inlR_n5 | with_reducible apply inlR_r5); (· (first | exact Ctx.fn_ok hS | exact Ctx.rd_ok hS | assumption | exact True.intro)); iterate 2 (· (simp only [go_sem, reduceCtorEq, reduceIte, Nat.reduceAdd, Nat.reduceMul, Nat.reduceEqDiff, Nat.reduceLeDiff, Nat.reduceSub, Nat.reduceLT, Nat.reduceGT, Int.reduceLE, Int.reduceLT, Int.reduceEq, Int.reduceNeg, Int.reduceAdd, Int.reduceSub, Int.reduceToNat, Am.S42, Am.sSane] <;> eq_refl)))
    | (first | with_reducible apply awp_scp | with_reducible apply awp_sn | with_reducible apply awp_nop | with_reducible apply awp_ret | with_reducible apply awp_exit | with_reducible apply awp_block | with_reducible apply awp_seq | with_reducible apply seqK_n | with_reducible apply seqK_r | with_reducible apply seqK_x | with_reducible apply blkK_n | with_reducible apply blkK_r | with_reducible apply blkK_x)
    | (with_reducible apply blkK_y; (· first | rfl | decide))
    | (first | with_reducible apply backK_x | with_reducible apply backK_r | with_reducible apply asgK_n | with_reducible apply rngK_x | with_reducible apply rngK_r | with_reducible apply True.intro | with_reducible apply And.intro True.intro True.intro)
    | (fail_if_success with_reducible apply K_id); (fail_if_success with_reducible apply awp_id); omega
    | fail)
  refine awp_cf (by simp only [go_sem, reduceCtorEq, reduceIte, Nat.reduceAdd, Nat.reduceMul, Nat.reduceEqDiff, Nat.reduceLeDiff, Nat.reduceSub, Nat.reduceLT, Nat.reduceGT, Int.reduceLE, Int.reduceLT, Int.reduceEq, Int.reduceNeg, Int.reduceAdd, Int.reduceSub, Int.reduceToNat] <;> eq_refl) ?_
  repeat' (first
    | ((first | with_reducible apply awp_sr5 | with_reducible apply awp_r5 | with_reducible apply awp_sd | with_reducible apply awp_d | with_reducible apply inlR_n5 | with_reducible apply inlR_r5); (· (first | exact Ctx.fn_ok hS | exact Ctx.rd_ok hS | assumption | exact True.intro)); iterate 2 (· (simp only [go_sem, reduceCtorEq, reduceIte, Nat.reduceAdd, Nat.reduceMul, Nat.reduceEqDiff, Nat.reduceLeDiff, Nat.reduceSub, Nat.reduceLT, Nat.reduceGT, Int.reduceLE, Int.reduceLT, Int.reduceEq, Int.reduceNeg, Int.reduceAdd, Int.reduceSub, Int.reduceToNat, Am.S42, Am.sMade24, Am.dec1_row1, Am.dec2_row2, Am.dec3_row3, Am.gCells, hx1, hA, Am.sPick, ht, hs, Am.sValue, hV, hx.rate, hx.first, hsI.1, hsI.2, Am.sBounds, Am.gP, Am.tup3, lA, a1, Am.sMonValid, hvA] <;> eq_refl)))
    | (first | with_reducible apply awp_scp | with_reducible apply awp_sn | with_reducible apply awp_nop | with_reducible apply awp_ret | with_reducible apply awp_exit | with_reducible apply awp_block | with_reducible apply awp_seq | with_reducible apply seqK_n | with_reducible apply seqK_r | with_reducible apply seqK_x | with_reducible apply blkK_n | with_reducible apply blkK_r | with_reducible apply blkK_x)
    | (with_reducible apply blkK_y; (· first | rfl | decide))
    | (first | with_reducible apply backK_x | with_reducible apply backK_r | with_reducible apply asgK_n | with_reducible apply rngK_x | with_reducible apply rngK_r | with_reducible apply True.intro | with_reducible apply And.intro True.intro True.intro)
    | (fail_if_success with_reducible apply K_id); (fail_if_success with_reducible apply awp_id); omega
    | fail)
  · exact ⟨hx.rate, hx.first, hx.steps⟩
  refine awp_cp (¬ (l ≤ V s.toNat ∧ V s.toNat ≤ h)) (by simp only [go_sem, reduceCtorEq, reduceIte, Nat.reduceAdd, Nat.reduceMul, Nat.reduceEqDiff, Nat.reduceLeDiff, Nat.reduceSub, Nat.reduceLT, Nat.reduceGT, Int.reduceLE, Int.reduceLT, Int.reduceEq, Int.reduceNeg, Int.reduceAdd, Int.reduceSub, Int.reduceToNat] <;> eq_refl) ?_ (fun hc => ?_) (fun hc => ?_)
  · rw [Bool.eq_iff_iff]
    simp
  · omega
  repeat' (first
    | ((first | with_reducible apply awp_sr5 | with_reducible apply awp_r5 | with_reducible apply awp_sd | with_reducible apply awp_d | with_reducible apply inlR_n5 | with_reducible apply inlR_r5); (· (first | exact Ctx.fn_ok hS | exact Ctx.rd_ok hS | assumption | exact True.intro)); iterate 2 (· (simp only [go_sem, reduceCtorEq, reduceIte, Nat.reduceAdd, Nat.reduceMul, Nat.reduceEqDiff, Nat.reduceLeDiff, Nat.reduceSub, Nat.reduceLT, Nat.reduceGT, Int.reduceLE, Int.reduceLT, Int.reduceEq, Int.reduceNeg, Int.reduceAdd, Int.reduceSub, Int.reduceToNat, Am.S42, Am.sPick, hf, hq, hr, hfr, hma, hli, hn, Am.sOver, Am.sAlarm, Am.tup3, Am.dec2_row2, Am.dec3_row3, lA, hfrI.1, hfrI.2, ho, c1, Am.sValue, Am.dec1_row1, hV, hx.rate, hx.first] <;> eq_refl)))
    | (first | with_reducible apply awp_scp | with_reducible apply awp_sn | with_reducible apply awp_nop | with_reducible apply awp_ret | with_reducible apply awp_exit | with_reducible apply awp_block | with_reducible apply awp_seq | with_reducible apply seqK_n | with_reducible apply seqK_r | with_reducible apply seqK_x | with_reducible apply blkK_n | with_reducible apply blkK_r | with_reducible apply blkK_x)
    | (with_reducible apply blkK_y; (· first | rfl | decide))
    | (first | with_reducible apply backK_x | with_reducible apply backK_r | with_reducible apply asgK_n | with_reducible apply rngK_x | with_reducible apply rngK_r | with_reducible apply True.intro | with_reducible apply And.intro True.intro True.intro)
    | (fail_if_success with_reducible apply K_id); (fail_if_success with_reducible apply awp_id); omega
    | fail)
  · intro hg
    simp at hg
    have := c2 hg
    exact ⟨hx.rate, hx.first, hx.steps, by omega, by omega⟩
  refine awp_cp (0 ≤ su ∧ V su.toNat ≤ n) (by simp only [go_sem, reduceCtorEq, reduceIte, Nat.reduceAdd, Nat.reduceMul, Nat.reduceEqDiff, Nat.reduceLeDiff, Nat.reduceSub, Nat.reduceLT, Nat.reduceGT, Int.reduceLE, Int.reduceLT, Int.reduceEq, Int.reduceNeg, Int.reduceAdd, Int.reduceSub, Int.reduceToNat] <;> eq_refl) ?_ (fun hc2 => ?_) (fun hc2 => ?_)
  · rw [Bool.eq_iff_iff]
    simp
  · exact absurd (c2 hc2.1) (by omega)
  repeat' (first
    | ((first | with_reducible apply awp_sr5 | with_reducible apply awp_r5 | with_reducible apply awp_sd | with_reducible apply awp_d | with_reducible apply inlR_n5 | with_reducible apply inlR_r5); (· (first | exact Ctx.fn_ok hS | exact Ctx.rd_ok hS | assumption | exact True.intro)); iterate 2 (· (simp only [go_sem, reduceCtorEq, reduceIte, Nat.reduceAdd, Nat.reduceMul, Nat.reduceEqDiff, Nat.reduceLeDiff, Nat.reduceSub, Nat.reduceLT, Nat.reduceGT, Int.reduceLE, Int.reduceLT, Int.reduceEq, Int.reduceNeg, Int.reduceAdd, Int.reduceSub, Int.reduceToNat] <;> eq_refl)))
    | (first | with_reducible apply awp_scp | with_reducible apply awp_sn | with_reducible apply awp_nop | with_reducible apply awp_ret | with_reducible apply awp_exit | with_reducible apply awp_block | with_reducible apply awp_seq | with_reducible apply seqK_n | with_reducible apply seqK_r | with_reducible apply seqK_x | with_reducible apply blkK_n | with_reducible apply blkK_r | with_reducible apply blkK_x)
    | (with_reducible apply blkK_y; (· first | rfl | decide))
    | (first | with_reducible apply backK_x | with_reducible apply backK_r | with_reducible apply asgK_n | with_reducible apply rngK_x | with_reducible apply rngK_r | with_reducible apply True.intro | with_reducible apply And.intro True.intro True.intro)
    | (fail_if_success with_reducible apply K_id); (fail_if_success with_reducible apply awp_id); omega
    | fail)
  refine awp_loop (fun y : Int × Nat => ⟨[(25, .i y.1), (19, .i n), (20, .i o), (23, .i m), (11, .v (.bool true)), (5, .box (0, 1) 0), (18, .box (1003, 9) 0)],
      [(.c (1003, 9) 0, .i fr), (.c (1003, 9) 1, .i (fr + 1 + q)), (.c (0, 1) 0, .i x.drift), (.c (0, 1) 1, .i x.start), (.c (0, 1) 2, .sl 1 false (x.rates.map row1) []), (.c (0, 1) 3, .sl 3 false (x.rd.map row3) []), (.c (0, 1) 4, .i x.tol), (.c (0, 1) 5, .i x.rate), (.c (0, 1) 6, .i x.first), (.c (0, 1) 7, .sl 1 false (x.steps.map row1) []), (.c (0, 1) 8, .sl 2 false (x.sm.map row2) [])], y.2⟩)
    (fun y => fr ≤ y.1 ∧ y.1 ≤ fr + 1 + q) (fun y => (fr + 1 + q - y.1).toNat) (fr, 50) ?_ ?_ ?_
  · simp; omega
  · refine Le.of ?_ ?_ (by simp) <;> (simp only [go_sem, reduceCtorEq, reduceIte, Nat.reduceAdd, Nat.reduceMul, Nat.reduceEqDiff, Nat.reduceLeDiff, Nat.reduceSub, Nat.reduceLT, Nat.reduceGT, Int.reduceLE, Int.reduceLT, Int.reduceEq, Int.reduceNeg, Int.reduceAdd, Int.reduceSub, Int.reduceToNat]; try simp)
  · rintro ⟨i, c⟩ ⟨hi1, hi2⟩
    simp only at hi1 hi2
    repeat' (first
    | ((first | with_reducible apply awp_sr5 | with_reducible apply awp_r5 | with_reducible apply awp_sd | with_reducible apply awp_d | with_reducible apply inlR_n5 | with_reducible apply inlR_r5); (· (first | exact Ctx.fn_ok hS | exact Ctx.rd_ok hS | assumption | exact True.intro)); iterate 2 (· (simp only [go_sem, reduceCtorEq, reduceIte, Nat.reduceAdd, Nat.reduceMul, Nat.reduceEqDiff, Nat.reduceLeDiff, Nat.reduceSub, Nat.reduceLT, Nat.reduceGT, Int.reduceLE, Int.reduceLT, Int.reduceEq, Int.reduceNeg, Int.reduceAdd, Int.reduceSub, Int.reduceToNat] <;> eq_refl)))
    | (first | with_reducible apply awp_scp | with_reducible apply awp_sn | with_reducible apply awp_nop | with_reducible apply awp_ret | with_reducible apply awp_exit | with_reducible apply awp_block | with_reducible apply awp_seq | with_reducible apply seqK_n | with_reducible apply seqK_r | with_reducible apply seqK_x | with_reducible apply blkK_n | with_reducible apply blkK_r | with_reducible apply blkK_x)
    | (with_reducible apply blkK_y; (· first | rfl | decide))
    | (first | with_reducible apply backK_x | with_reducible apply backK_r | with_reducible apply asgK_n | with_reducible apply rngK_x | with_reducible apply rngK_r | with_reducible apply True.intro | with_reducible apply And.intro True.intro True.intro)
    | (fail_if_success with_reducible apply K_id); (fail_if_success with_reducible apply awp_id); omega
    | fail)
    refine awp_cp (i < fr + 1 + q) (by simp only [go_sem, reduceCtorEq, reduceIte, Nat.reduceAdd, Nat.reduceMul, Nat.reduceEqDiff, Nat.reduceLeDiff, Nat.reduceSub, Nat.reduceLT, Nat.reduceGT, Int.reduceLE, Int.reduceLT, Int.reduceEq, Int.reduceNeg, Int.reduceAdd, Int.reduceSub, Int.reduceToNat] <;> eq_refl) (by first | simp only [Bool.decide_or, Bool.decide_and, decide_not] | simp) (fun hc3 => ?_) (fun hc3 => ?_)
    · have hiI : 0 ≤ i ∧ i ≤ 100000 := by omega
      have hvi := hVb i.toNat
      repeat' (first
    | ((first | with_reducible apply awp_sr5 | with_reducible apply awp_r5 | with_reducible apply awp_sd | with_reducible apply awp_d | with_reducible apply inlR_n5 | with_reducible apply inlR_r5); (· (first | exact Ctx.fn_ok hS | exact Ctx.rd_ok hS | assumption | exact True.intro)); iterate 2 (· (simp only [go_sem, reduceCtorEq, reduceIte, Nat.reduceAdd, Nat.reduceMul, Nat.reduceEqDiff, Nat.reduceLeDiff, Nat.reduceSub, Nat.reduceLT, Nat.reduceGT, Int.reduceLE, Int.reduceLT, Int.reduceEq, Int.reduceNeg, Int.reduceAdd, Int.reduceSub, Int.reduceToNat, Am.S42, Am.sValue, Am.dec1_row1, hV, hx.rate, hx.first, hiI.1, hiI.2, Am.dec2_row2, Am.dec3_row3] <;> eq_refl)))
    | (first | with_reducible apply awp_scp | with_reducible apply awp_sn | with_reducible apply awp_nop | with_reducible apply awp_ret | with_reducible apply awp_exit | with_reducible apply awp_block | with_reducible apply awp_seq | with_reducible apply seqK_n | with_reducible apply seqK_r | with_reducible apply seqK_x | with_reducible apply blkK_n | with_reducible apply blkK_r | with_reducible apply blkK_x)
    | (with_reducible apply blkK_y; (· first | rfl | decide))
    | (first | with_reducible apply backK_x | with_reducible apply backK_r | with_reducible apply asgK_n | with_reducible apply rngK_x | with_reducible apply rngK_r | with_reducible apply True.intro | with_reducible apply And.intro True.intro True.intro)
    | (fail_if_success with_reducible apply K_id); (fail_if_success with_reducible apply awp_id); omega
    | fail)
      · exact ⟨hx.rate, hx.first, hx.steps⟩
      refine awp_cp (n < V i.toNat ∧ (o = 0 ∨ m < 0 ∨ i < m)) (by simp only [go_sem, reduceCtorEq, reduceIte, Nat.reduceAdd, Nat.reduceMul, Nat.reduceEqDiff, Nat.reduceLeDiff, Nat.reduceSub, Nat.reduceLT, Nat.reduceGT, Int.reduceLE, Int.reduceLT, Int.reduceEq, Int.reduceNeg, Int.reduceAdd, Int.reduceSub, Int.reduceToNat] <;> eq_refl) ?_ (fun hc4 => ?_) (fun hc4 => ?_)
      · rw [Bool.eq_iff_iff]
        simp [or_assoc]
      · have := c3 i hi1 hc3 hc4.1
        exact absurd hc4.2 (by omega)
      repeat' (first
    | ((first | with_reducible apply awp_sr5 | with_reducible apply awp_r5 | with_reducible apply awp_sd | with_reducible apply awp_d | with_reducible apply inlR_n5 | with_reducible apply inlR_r5); (· (first | exact Ctx.fn_ok hS | exact Ctx.rd_ok hS | assumption | exact True.intro)); iterate 2 (· (simp only [go_sem, reduceCtorEq, reduceIte, Nat.reduceAdd, Nat.reduceMul, Nat.reduceEqDiff, Nat.reduceLeDiff, Nat.reduceSub, Nat.reduceLT, Nat.reduceGT, Int.reduceLE, Int.reduceLT, Int.reduceEq, Int.reduceNeg, Int.reduceAdd, Int.reduceSub, Int.reduceToNat] <;> eq_refl)))
    | (first | with_reducible apply awp_scp | with_reducible apply awp_sn | with_reducible apply awp_nop | with_reducible apply awp_ret | with_reducible apply awp_exit | with_reducible apply awp_block | with_reducible apply awp_seq | with_reducible apply seqK_n | with_reducible apply seqK_r | with_reducible apply seqK_x | with_reducible apply blkK_n | with_reducible apply blkK_r | with_reducible apply blkK_x)
    | (with_reducible apply blkK_y; (· first | rfl | decide))
    | (first | with_reducible apply backK_x | with_reducible apply backK_r | with_reducible apply asgK_n | with_reducible apply rngK_x | with_reducible apply rngK_r | with_reducible apply True.intro | with_reducible apply And.intro True.intro True.intro)
    | (fail_if_success with_reducible apply K_id); (fail_if_success with_reducible apply awp_id); omega
    | fail)
      refine backK_n (i + 1, c + 50) ⟨by dsimp only; omega, by dsimp only; omega⟩ (by show (fr + 1 + q - (i + 1)).toNat < (fr + 1 + q - i).toNat; omega) (Le.of ?_ ?_ ?_)
      · simp only [go_sem, reduceCtorEq, reduceIte, Nat.reduceAdd, Nat.reduceMul, Nat.reduceEqDiff, Nat.reduceLeDiff, Nat.reduceSub, Nat.reduceLT, Nat.reduceGT, Int.reduceLE, Int.reduceLT, Int.reduceEq, Int.reduceNeg, Int.reduceAdd, Int.reduceSub, Int.reduceToNat] <;> simp
      · simp only [go_sem, reduceCtorEq, reduceIte, Nat.reduceAdd, Nat.reduceMul, Nat.reduceEqDiff, Nat.reduceLeDiff, Nat.reduceSub, Nat.reduceLT, Nat.reduceGT, Int.reduceLE, Int.reduceLT, Int.reduceEq, Int.reduceNeg, Int.reduceAdd, Int.reduceSub, Int.reduceToNat]
      · simp
    · repeat' (first
    | ((first | with_reducible apply awp_sr5 | with_reducible apply awp_r5 | with_reducible apply awp_sd | with_reducible apply awp_d | with_reducible apply inlR_n5 | with_reducible apply inlR_r5); (· (first | exact Ctx.fn_ok hS | exact Ctx.rd_ok hS | assumption | exact True.intro)); iterate 2 (· (simp only [go_sem, reduceCtorEq, reduceIte, Nat.reduceAdd, Nat.reduceMul, Nat.reduceEqDiff, Nat.reduceLeDiff, Nat.reduceSub, Nat.reduceLT, Nat.reduceGT, Int.reduceLE, Int.reduceLT, Int.reduceEq, Int.reduceNeg, Int.reduceAdd, Int.reduceSub, Int.reduceToNat] <;> eq_refl)))
    | (first | with_reducible apply awp_scp | with_reducible apply awp_sn | with_reducible apply awp_nop | with_reducible apply awp_ret | with_reducible apply awp_exit | with_reducible apply awp_block | with_reducible apply awp_seq | with_reducible apply seqK_n | with_reducible apply seqK_r | with_reducible apply seqK_x | with_reducible apply blkK_n | with_reducible apply blkK_r | with_reducible apply blkK_x)
    | (with_reducible apply blkK_y; (· first | rfl | decide))
    | (first | with_reducible apply backK_x | with_reducible apply backK_r | with_reducible apply asgK_n | with_reducible apply rngK_x | with_reducible apply rngK_r | with_reducible apply True.intro | with_reducible apply And.intro True.intro True.intro)
    | (fail_if_success with_reducible apply K_id); (fail_if_success with_reducible apply awp_id); omega
    | fail)
      first | refine endK_r (by simp only [go_sem, reduceCtorEq, reduceIte, Nat.reduceAdd, Nat.reduceMul, Nat.reduceEqDiff, Nat.reduceLeDiff, Nat.reduceSub, Nat.reduceLT, Nat.reduceGT, Int.reduceLE, Int.reduceLT, Int.reduceEq, Int.reduceNeg, Int.reduceAdd, Int.reduceSub, Int.reduceToNat] <;> eq_refl) (by simp only [go_sem, reduceCtorEq, reduceIte, Nat.reduceAdd, Nat.reduceMul, Nat.reduceEqDiff, Nat.reduceLeDiff, Nat.reduceSub, Nat.reduceLT, Nat.reduceGT, Int.reduceLE, Int.reduceLT, Int.reduceEq, Int.reduceNeg, Int.reduceAdd, Int.reduceSub, Int.reduceToNat]) (by simp only [go_sem, reduceCtorEq, reduceIte, Nat.reduceAdd, Nat.reduceMul, Nat.reduceEqDiff, Nat.reduceLeDiff, Nat.reduceSub, Nat.reduceLT, Nat.reduceGT, Int.reduceLE, Int.reduceLT, Int.reduceEq, Int.reduceNeg, Int.reduceAdd, Int.reduceSub, Int.reduceToNat]) ?_ rfl | refine endK_n (by simp only [go_sem, reduceCtorEq, reduceIte, Nat.reduceAdd, Nat.reduceMul, Nat.reduceEqDiff, Nat.reduceLeDiff, Nat.reduceSub, Nat.reduceLT, Nat.reduceGT, Int.reduceLE, Int.reduceLT, Int.reduceEq, Int.reduceNeg, Int.reduceAdd, Int.reduceSub, Int.reduceToNat] <;> eq_refl) (by simp only [go_sem, reduceCtorEq, reduceIte, Nat.reduceAdd, Nat.reduceMul, Nat.reduceEqDiff, Nat.reduceLeDiff, Nat.reduceSub, Nat.reduceLT, Nat.reduceGT, Int.reduceLE, Int.reduceLT, Int.reduceEq, Int.reduceNeg, Int.reduceAdd, Int.reduceSub, Int.reduceToNat]) (by simp only [go_sem, reduceCtorEq, reduceIte, Nat.reduceAdd, Nat.reduceMul, Nat.reduceEqDiff, Nat.reduceLeDiff, Nat.reduceSub, Nat.reduceLT, Nat.reduceGT, Int.reduceLE, Int.reduceLT, Int.reduceEq, Int.reduceNeg, Int.reduceAdd, Int.reduceSub, Int.reduceToNat]) ?_ rfl
      simp only [go_sem, reduceCtorEq, reduceIte, Nat.reduceAdd, Nat.reduceMul, Nat.reduceEqDiff, Nat.reduceLeDiff, Nat.reduceSub, Nat.reduceLT, Nat.reduceGT, Int.reduceLE, Int.reduceLT, Int.reduceEq, Int.reduceNeg, Int.reduceAdd, Int.reduceSub, Int.reduceToNat]
end Go.Proofs.Ytmmfbjmjhjmccaa.Am

namespace Go.Proofs.Ytmmfbjmjhjmccaa
open Go.ChangeShapes Go.WideShapes Go.ChangeAt Go.RowKit
set_option linter.unusedVariables false

theorem lawOwn : ownKnob Try.prog.godebug = none := by kernel_rfl
theorem lawLaid : laidOutB Try.prog = true := by kernel_rfl

theorem monitorSound_pc (cs : List Am.AV) (h : Am.ArgsOK [(true, Am.shSt), (false, [.i]), (false, [.i]), (false, [.i]), (false, [.i])] cs) : Am.PCall Try.prog 4 cs (.b true) := by
  simp only [Am.ArgsOK] at h
  obtain ⟨a, _, rfl, ha, b, _, rfl, hb, c, _, rfl, hc, d, _, rfl, hd, e, _, rfl, he, rfl⟩ := h
  obtain ⟨x, hx, rfl⟩ := Am.story_of ha
  obtain ⟨t, ht, rfl⟩ := Am.int_of hb
  obtain ⟨u, hu, rfl⟩ := Am.int_of hc
  obtain ⟨v, hv, rfl⟩ := Am.int_of hd
  obtain ⟨w, hw, rfl⟩ := Am.int_of he
  exact Am.lawSound x hx t u v w ht hu hv hw

set_option maxRecDepth 100000 in
theorem monitorSound_lifted (os : Os) (started : os.Started) (H : Type) (enc : TypeId × Value → H) :
    ReturnsInHanded {} Try.checked os 4 .any (Rows.monitorSoundSpec.pre6 enc Try.prog Try.f4 Rows.monitorSoundRow.domain false) (Rows.monitorSoundSpec.post enc Try.prog Try.f4 false true false false) := by
  refine returnsInHanded_of_change (C := Try.checked) lawOwn started (by kernel_rfl) Try.func4
    (ChangeSpec.witness6 (enc := enc) (C := Try.checked) false ⟨#[], #[.agg #[.int .i64 0, .int .i64 0, .slice none 0 0, .slice none 0 0, .int .i64 0, .int .i64 0, .int .i64 0, .slice none 0 0, .slice none 0 0], .int .i64 0, .int .i64 0, .int .i64 0, .int .i64 0], []⟩ 8 (by kernel_rfl) (by kernel_rfl) (by kernel_rfl) (by kernel_rfl)) ?_
  intro W base args ds gs before hval hW _ _
  exact Am.law_contract (P := Try.prog) (fn := Try.f4) (s := Rows.monitorSoundSpec) (tb := 4) monitorSound_pc (by kernel_rfl) rfl
    (fun ds h => match ds, h with
      | [_, _, _, _, _], _ => rfl) (by kernel_rfl) (by kernel_rfl) lawLaid (by kernel_rfl) W base args ds gs before hval hW

theorem monitorSound_holds : Rows.MonitorSoundSaid :=
  OpenClaim.holds_of_wide 4 Try.f4 rfl rfl rfl rfl rfl rfl rfl ⟨rfl, rfl, rfl, rfl, rfl⟩ rfl rfl rfl rfl rfl (by kernel_rfl) Try.func4 (by kernel_rfl)
    (of_decide_eq_true (by kernel_rfl)) (by unfold Func.isWrapper; first | (rw [if_pos (by decide +kernel)]; kernel_rfl) | (rw [if_neg (by decide +kernel)]; exact ⟨rfl, rfl⟩))
    (fun os started H enc _ => monitorSound_lifted os started H enc)
end Go.Proofs.Ytmmfbjmjhjmccaa
