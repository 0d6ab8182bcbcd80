import Derived.Test.YtmmfbjmjhjmccaaP12
import Derived.Test.YtmmfbjmjhjmccaaM4
namespace Go.Proofs.Ytmmfbjmjhjmccaa.Am
open Go
attribute [local irreducible] awp seqK blkK backK endK inlK restK rngK asgK itK
set_option maxRecDepth 100000
set_option maxHeartbeats 8000000
set_option linter.unusedSimpArgs false
set_option linter.unusedVariables false
attribute [local irreducible] made24 foundS valueS
/-- A wider gauge than a story's has bounds, too, and they are not narrower. -/
theorem wide_sound (x : Sty) {t : Int} (ht : 0 ≤ t ∧ t ≤ 10000) {tol' rate' : Int} {S' : List Sm} (hS : S'.Sublist (made24 x).S) (h1 : (made24 x).tol ≤ tol') (h2 : (made24 x).rate ≤ rate') (h3 : tol' ≤ 1000) (h4 : rate' ≤ 1000) :
    ∃ l h, boundsS ⟨(made24 x).d, (made24 x).R, tol', rate', S'⟩ t = (l, h, 0) ∧ l ≤ (boundsS (made24 x) t).1 ∧ (boundsS (made24 x) t).2.1 ≤ h := by
  obtain ⟨l, h, a1, a2, a3, a4, a5, a6⟩ := bounds_sound x ht
  have hv := made24_valid x
  obtain ⟨f1, _, _⟩ := found_sound x ht
  obtain ⟨v1, v2, v3, v4, v5⟩ := validG_parts hv
  have hn := @narrows (made24 x).d (made24 x).R (made24 x).tol tol' (made24 x).rate rate' (made24 x).S S' t (fun s hs => hS.subset hs) h1 h2
  have hv' : validG ⟨(made24 x).d, (made24 x).R, tol', rate', S'⟩ = true := by
    have := hS.length_le
    simp only [validG, Bool.and_eq_true, decide_eq_true_eq]
    exact ⟨chain2_sub hS v1, ⟨⟨v2, by omega, by omega⟩, by omega, by omega⟩, by omega⟩
  have e1 : (lookS (made24 x).rate t (countedL (made24 x).d (made24 x).R (made24 x).tol 0 (made24 x).S)).1 = l := by rw [← a3, f1]; rfl
  have e2 : (lookS (made24 x).rate t (countedL (made24 x).d (made24 x).R (made24 x).tol 0 (made24 x).S)).2.1 = h := by rw [← a4, f1]; rfl
  rw [e1, e2] at hn
  have hf : foundS ⟨(made24 x).d, (made24 x).R, tol', rate', S'⟩ t = (lookS rate' t (countedL (made24 x).d (made24 x).R tol' 0 S'), true) := by
    unfold foundS
    rw [if_pos ⟨hv', by omega⟩]
    have : (lookS rate' t (countedL (made24 x).d (made24 x).R tol' 0 S')).1 ≤ (lookS rate' t (countedL (made24 x).d (made24 x).R tol' 0 S')).2.1 := by omega
    simp only [factsG, this, decide_true]
  refine ⟨(lookS rate' t (countedL (made24 x).d (made24 x).R tol' 0 S')).1, (lookS rate' t (countedL (made24 x).d (made24 x).R tol' 0 S')).2.1, ?_, ?_, ?_⟩
  · unfold boundsS
    rw [hf]
    rfl
  · rw [a1]; exact hn.1
  · rw [a1]; exact hn.2

def S41 : List (Nat × Spec) := [(11, sSane), (12, sMade24), (15, sPick), (18, sBounds)]
theorem S41_ok : TabOK Try.prog (tabOf S41) := tab_cons sane_fok (tab_cons made24_fok (tab_cons pick_fok (tab_cons bounds_fok tab_nil)))

/-- MonitorNarrows. -/
theorem lawNarrows (x : Sty) (hx : x.In) (t which tol rate : Int) (ht : inI t) (hw : inI which) (hto : inI tol) (hra : inI rate) : PCall Try.prog 6 [.agg (stCells x false false false false [] [] [] []), .i t, .i which, .i tol, .i rate] (.b true) := by
  refine pcall_fn S41_ok _ Try.func6 ok6 nt6 (by simp) fun _ => ?_
  have hS := S41_ok
  unfold ac6 rv6
  have hx1 : Sty.In ⟨x.drift, x.start, x.rates, x.rd, x.tol, x.rate, x.first, x.steps, x.sm⟩ := hx
  have hpt := @pick_bd t 400 (by omega)
  obtain ⟨s, hs⟩ : ∃ s, pickS t 400 = s := ⟨_, rfl⟩
  rw [hs] at hpt
  have hp1 := @pick_bd tol 50 (by omega)
  have hp2 := @pick_bd rate 50 (by omega)
  obtain ⟨p, hp⟩ : ∃ s, pickS tol 50 = s := ⟨_, rfl⟩
  obtain ⟨q, hq⟩ : ∃ s, pickS rate 50 = s := ⟨_, rfl⟩
  rw [hp] at hp1
  rw [hq] at hp2
  have hlA := (made24_S x).1
  have ht1 := @pick_bd x.tol 31 (by omega)
  have hr1 := @pick_bd x.rate 21 (by omega)
  have ets := made24_tol x
  have ers := made24_rate x
  obtain ⟨l, h, a1, a2, a3, a4, a5, a6⟩ := bounds_sound x (t := s) (by omega)
  have hwide := fun S' hS => @wide_sound x s (by omega) ((made24 x).tol + p) ((made24 x).rate + q) S' hS (by omega) (by omega) (by omega) (by omega)
  rw [a1] at hwide
  obtain ⟨A, hA⟩ : ∃ A, made24 ⟨x.drift, x.start, x.rates, x.rd, x.tol, x.rate, x.first, x.steps, x.sm⟩ = A := ⟨_, rfl⟩
  have hA' : made24 x = A := hA
  rw [hA'] at hlA a1 hwide ets ers
  have lA : A.S.length ≤ 1000 := by omega
  obtain ⟨d, R, tol0, rate0, S⟩ := A
  simp only at lA hwide hlA ets ers
  have htol0 : 0 ≤ tol0 ∧ tol0 ≤ 1000 := by omega
  have hrate0 : 0 ≤ rate0 ∧ rate0 ≤ 1000 := by omega
  simp only [stCells]
  repeat' (first
    | ((first | with_reducible apply awp_sr5 | with_reducible apply awp_r5 | with_reducible apply awp_sd | with_reducible apply awp_d | with_reducible apply inlR_n5 | with_reducible apply inlR_r5); (· (first | exact Ctx.fn_ok hS | exact Ctx.rd_ok hS | assumption | exact True.intro)); iterate 2 (· (simp only [go_sem, reduceCtorEq, reduceIte, Nat.reduceAdd, Nat.reduceMul, Nat.reduceEqDiff, Nat.reduceLeDiff, Nat.reduceSub, Nat.reduceLT, Nat.reduceGT, Int.reduceLE, Int.reduceLT, Int.reduceEq, Int.reduceNeg, Int.reduceAdd, Int.reduceSub, Int.reduceToNat, Am.S41, Am.sSane] <;> eq_refl)))
    | (first | with_reducible apply awp_scp | with_reducible apply awp_sn | with_reducible apply awp_nop | with_reducible apply awp_ret | with_reducible apply awp_exit | with_reducible apply awp_block | with_reducible apply awp_seq | with_reducible apply seqK_n | with_reducible apply seqK_r | with_reducible apply seqK_x | with_reducible apply blkK_n | with_reducible apply blkK_r | with_reducible apply blkK_x)
    | (with_reducible apply blkK_y; (· first | rfl | decide))
    | (first | with_reducible apply backK_x | with_reducible apply backK_r | with_reducible apply asgK_n | with_reducible apply rngK_x | with_reducible apply rngK_r | with_reducible apply True.intro | with_reducible apply And.intro True.intro True.intro)
    | (fail_if_success with_reducible apply K_id); (fail_if_success with_reducible apply awp_id); omega
    | fail)
  refine awp_cf (by simp only [go_sem, reduceCtorEq, reduceIte, Nat.reduceAdd, Nat.reduceMul, Nat.reduceEqDiff, Nat.reduceLeDiff, Nat.reduceSub, Nat.reduceLT, Nat.reduceGT, Int.reduceLE, Int.reduceLT, Int.reduceEq, Int.reduceNeg, Int.reduceAdd, Int.reduceSub, Int.reduceToNat] <;> eq_refl) ?_
  repeat' (first
    | ((first | with_reducible apply awp_sr5 | with_reducible apply awp_r5 | with_reducible apply awp_sd | with_reducible apply awp_d | with_reducible apply inlR_n5 | with_reducible apply inlR_r5); (· (first | exact Ctx.fn_ok hS | exact Ctx.rd_ok hS | assumption | exact True.intro)); iterate 2 (· (simp only [go_sem, reduceCtorEq, reduceIte, Nat.reduceAdd, Nat.reduceMul, Nat.reduceEqDiff, Nat.reduceLeDiff, Nat.reduceSub, Nat.reduceLT, Nat.reduceGT, Int.reduceLE, Int.reduceLT, Int.reduceEq, Int.reduceNeg, Int.reduceAdd, Int.reduceSub, Int.reduceToNat, Am.S41, Am.sMade24, Am.dec1_row1, Am.dec2_row2, Am.dec3_row3, Am.gCells, hx1, hA, Am.sPick, ht, hto, hra, hs, hp, hq, Am.sBounds, Am.gP, Am.tup3, lA, a1] <;> eq_refl)))
    | (first | with_reducible apply awp_scp | with_reducible apply awp_sn | with_reducible apply awp_nop | with_reducible apply awp_ret | with_reducible apply awp_exit | with_reducible apply awp_block | with_reducible apply awp_seq | with_reducible apply seqK_n | with_reducible apply seqK_r | with_reducible apply seqK_x | with_reducible apply blkK_n | with_reducible apply blkK_r | with_reducible apply blkK_x)
    | (with_reducible apply blkK_y; (· first | rfl | decide))
    | (first | with_reducible apply backK_x | with_reducible apply backK_r | with_reducible apply asgK_n | with_reducible apply rngK_x | with_reducible apply rngK_r | with_reducible apply True.intro | with_reducible apply And.intro True.intro True.intro)
    | (fail_if_success with_reducible apply K_id); (fail_if_success with_reducible apply awp_id); omega
    | fail)
  have fin : ∀ b : Bool, b = true → AV.v (Value.bool b) = AV.b true := fun b h => by rw [h]
  refine awp_cp ((0 : Int) < S.length) (by simp only [go_sem, reduceCtorEq, reduceIte, Nat.reduceAdd, Nat.reduceMul, Nat.reduceEqDiff, Nat.reduceLeDiff, Nat.reduceSub, Nat.reduceLT, Nat.reduceGT, Int.reduceLE, Int.reduceLT, Int.reduceEq, Int.reduceNeg, Int.reduceAdd, Int.reduceSub, Int.reduceToNat] <;> eq_refl) (by first | simp only [Bool.decide_or, Bool.decide_and, decide_not] | simp) (fun hc => ?_) (fun hc => ?_)
  · have hpw := @pick_bd which S.length hc
    obtain ⟨k, hk⟩ : ∃ k : Nat, pickS which S.length = (k : Int) := ⟨(pickS which S.length).toNat, by omega⟩
    rw [hk] at hpw
    have hsub : (S.take k ++ S.drop (k + 1)).Sublist S := by
      have h1 : (S.drop (k + 1)).Sublist (S.drop k) := by
        rw [← List.drop_drop]
        exact List.drop_sublist 1 _
      have h2 := (List.Sublist.refl (S.take k)).append h1
      rwa [List.take_append_drop] at h2
    have hl2 : (S.take k ++ S.drop (k + 1)).length ≤ 1000 := Nat.le_trans hsub.length_le lA
    have hrows : List.take (k - 0) (S.map row2) ++ List.drop ((k : Int) + 1).toNat (S.map row2) = (S.take k ++ S.drop (k + 1)).map row2 := by
      rw [show ((k : Int) + 1).toNat = k + 1 by omega, List.map_append, List.map_take, List.map_drop]
      rfl
    have hk1 : ((k : Int) + 1).toNat = k + 1 := by omega
    obtain ⟨l', h', b1, b2, b3⟩ := hwide _ hsub
    try simp only at b2 b3
    have hl3 : (S.take k).length + (S.drop (k + 1)).length ≤ 1000 := by rw [← List.length_append]; exact hl2
    have e1 : (List.take (k - 0) (S.map row2)).length = (S.take k).length := by simp
    have e2 : (List.drop ((k : Int) + 1).toNat (S.map row2)).length = (S.drop (k + 1)).length := by rw [hk1]; simp
    repeat' (first
    | ((first | with_reducible apply awp_sr5 | with_reducible apply awp_r5 | with_reducible apply awp_sd | with_reducible apply awp_d | with_reducible apply inlR_n5 | with_reducible apply inlR_r5); (· (first | exact Ctx.fn_ok hS | exact Ctx.rd_ok hS | assumption | exact True.intro)); iterate 2 (· (simp only [go_sem, reduceCtorEq, reduceIte, Nat.reduceAdd, Nat.reduceMul, Nat.reduceEqDiff, Nat.reduceLeDiff, Nat.reduceSub, Nat.reduceLT, Nat.reduceGT, Int.reduceLE, Int.reduceLT, Int.reduceEq, Int.reduceNeg, Int.reduceAdd, Int.reduceSub, Int.reduceToNat, Am.S41, Am.sPick, hw, hk, hrows, Am.sBounds, Am.gP, Am.tup3, Am.dec2_row2, Am.dec3_row3, e1, e2, hl3, b1] <;> eq_refl)))
    | (first | with_reducible apply awp_scp | with_reducible apply awp_sn | with_reducible apply awp_nop | with_reducible apply awp_ret | with_reducible apply awp_exit | with_reducible apply awp_block | with_reducible apply awp_seq | with_reducible apply seqK_n | with_reducible apply seqK_r | with_reducible apply seqK_x | with_reducible apply blkK_n | with_reducible apply blkK_r | with_reducible apply blkK_x)
    | (with_reducible apply blkK_y; (· first | rfl | decide))
    | (first | with_reducible apply backK_x | with_reducible apply backK_r | with_reducible apply asgK_n | with_reducible apply rngK_x | with_reducible apply rngK_r | with_reducible apply True.intro | with_reducible apply And.intro True.intro True.intro)
    | (fail_if_success with_reducible apply K_id); (fail_if_success with_reducible apply awp_id); omega
    | fail)
    first | refine endK_r (by simp only [go_sem, reduceCtorEq, reduceIte, Nat.reduceAdd, Nat.reduceMul, Nat.reduceEqDiff, Nat.reduceLeDiff, Nat.reduceSub, Nat.reduceLT, Nat.reduceGT, Int.reduceLE, Int.reduceLT, Int.reduceEq, Int.reduceNeg, Int.reduceAdd, Int.reduceSub, Int.reduceToNat] <;> eq_refl) (by simp only [go_sem, reduceCtorEq, reduceIte, Nat.reduceAdd, Nat.reduceMul, Nat.reduceEqDiff, Nat.reduceLeDiff, Nat.reduceSub, Nat.reduceLT, Nat.reduceGT, Int.reduceLE, Int.reduceLT, Int.reduceEq, Int.reduceNeg, Int.reduceAdd, Int.reduceSub, Int.reduceToNat]) (by simp only [go_sem, reduceCtorEq, reduceIte, Nat.reduceAdd, Nat.reduceMul, Nat.reduceEqDiff, Nat.reduceLeDiff, Nat.reduceSub, Nat.reduceLT, Nat.reduceGT, Int.reduceLE, Int.reduceLT, Int.reduceEq, Int.reduceNeg, Int.reduceAdd, Int.reduceSub, Int.reduceToNat]) ?_ rfl | refine endK_n (by simp only [go_sem, reduceCtorEq, reduceIte, Nat.reduceAdd, Nat.reduceMul, Nat.reduceEqDiff, Nat.reduceLeDiff, Nat.reduceSub, Nat.reduceLT, Nat.reduceGT, Int.reduceLE, Int.reduceLT, Int.reduceEq, Int.reduceNeg, Int.reduceAdd, Int.reduceSub, Int.reduceToNat] <;> eq_refl) (by simp only [go_sem, reduceCtorEq, reduceIte, Nat.reduceAdd, Nat.reduceMul, Nat.reduceEqDiff, Nat.reduceLeDiff, Nat.reduceSub, Nat.reduceLT, Nat.reduceGT, Int.reduceLE, Int.reduceLT, Int.reduceEq, Int.reduceNeg, Int.reduceAdd, Int.reduceSub, Int.reduceToNat]) (by simp only [go_sem, reduceCtorEq, reduceIte, Nat.reduceAdd, Nat.reduceMul, Nat.reduceEqDiff, Nat.reduceLeDiff, Nat.reduceSub, Nat.reduceLT, Nat.reduceGT, Int.reduceLE, Int.reduceLT, Int.reduceEq, Int.reduceNeg, Int.reduceAdd, Int.reduceSub, Int.reduceToNat]) ?_ rfl
    simp only [go_sem, reduceCtorEq, reduceIte, Nat.reduceAdd, Nat.reduceMul, Nat.reduceEqDiff, Nat.reduceLeDiff, Nat.reduceSub, Nat.reduceLT, Nat.reduceGT, Int.reduceLE, Int.reduceLT, Int.reduceEq, Int.reduceNeg, Int.reduceAdd, Int.reduceSub, Int.reduceToNat]
    refine fin _ ?_
    simp only [Bool.and_eq_true, decide_eq_true_eq]
    omega
  · obtain ⟨l', h', b1, b2, b3⟩ := hwide _ (List.Sublist.refl S)
    try simp only at b2 b3
    repeat' (first
    | ((first | with_reducible apply awp_sr5 | with_reducible apply awp_r5 | with_reducible apply awp_sd | with_reducible apply awp_d | with_reducible apply inlR_n5 | with_reducible apply inlR_r5); (· (first | exact Ctx.fn_ok hS | exact Ctx.rd_ok hS | assumption | exact True.intro)); iterate 2 (· (simp only [go_sem, reduceCtorEq, reduceIte, Nat.reduceAdd, Nat.reduceMul, Nat.reduceEqDiff, Nat.reduceLeDiff, Nat.reduceSub, Nat.reduceLT, Nat.reduceGT, Int.reduceLE, Int.reduceLT, Int.reduceEq, Int.reduceNeg, Int.reduceAdd, Int.reduceSub, Int.reduceToNat, Am.S41, Am.sBounds, Am.gP, Am.tup3, lA, Am.dec2_row2, Am.dec3_row3, b1] <;> eq_refl)))
    | (first | with_reducible apply awp_scp | with_reducible apply awp_sn | with_reducible apply awp_nop | with_reducible apply awp_ret | with_reducible apply awp_exit | with_reducible apply awp_block | with_reducible apply awp_seq | with_reducible apply seqK_n | with_reducible apply seqK_r | with_reducible apply seqK_x | with_reducible apply blkK_n | with_reducible apply blkK_r | with_reducible apply blkK_x)
    | (with_reducible apply blkK_y; (· first | rfl | decide))
    | (first | with_reducible apply backK_x | with_reducible apply backK_r | with_reducible apply asgK_n | with_reducible apply rngK_x | with_reducible apply rngK_r | with_reducible apply True.intro | with_reducible apply And.intro True.intro True.intro)
    | (fail_if_success with_reducible apply K_id); (fail_if_success with_reducible apply awp_id); omega
    | fail)
    first | refine endK_r (by simp only [go_sem, reduceCtorEq, reduceIte, Nat.reduceAdd, Nat.reduceMul, Nat.reduceEqDiff, Nat.reduceLeDiff, Nat.reduceSub, Nat.reduceLT, Nat.reduceGT, Int.reduceLE, Int.reduceLT, Int.reduceEq, Int.reduceNeg, Int.reduceAdd, Int.reduceSub, Int.reduceToNat] <;> eq_refl) (by simp only [go_sem, reduceCtorEq, reduceIte, Nat.reduceAdd, Nat.reduceMul, Nat.reduceEqDiff, Nat.reduceLeDiff, Nat.reduceSub, Nat.reduceLT, Nat.reduceGT, Int.reduceLE, Int.reduceLT, Int.reduceEq, Int.reduceNeg, Int.reduceAdd, Int.reduceSub, Int.reduceToNat]) (by simp only [go_sem, reduceCtorEq, reduceIte, Nat.reduceAdd, Nat.reduceMul, Nat.reduceEqDiff, Nat.reduceLeDiff, Nat.reduceSub, Nat.reduceLT, Nat.reduceGT, Int.reduceLE, Int.reduceLT, Int.reduceEq, Int.reduceNeg, Int.reduceAdd, Int.reduceSub, Int.reduceToNat]) ?_ rfl | refine endK_n (by simp only [go_sem, reduceCtorEq, reduceIte, Nat.reduceAdd, Nat.reduceMul, Nat.reduceEqDiff, Nat.reduceLeDiff, Nat.reduceSub, Nat.reduceLT, Nat.reduceGT, Int.reduceLE, Int.reduceLT, Int.reduceEq, Int.reduceNeg, Int.reduceAdd, Int.reduceSub, Int.reduceToNat] <;> eq_refl) (by simp only [go_sem, reduceCtorEq, reduceIte, Nat.reduceAdd, Nat.reduceMul, Nat.reduceEqDiff, Nat.reduceLeDiff, Nat.reduceSub, Nat.reduceLT, Nat.reduceGT, Int.reduceLE, Int.reduceLT, Int.reduceEq, Int.reduceNeg, Int.reduceAdd, Int.reduceSub, Int.reduceToNat]) (by simp only [go_sem, reduceCtorEq, reduceIte, Nat.reduceAdd, Nat.reduceMul, Nat.reduceEqDiff, Nat.reduceLeDiff, Nat.reduceSub, Nat.reduceLT, Nat.reduceGT, Int.reduceLE, Int.reduceLT, Int.reduceEq, Int.reduceNeg, Int.reduceAdd, Int.reduceSub, Int.reduceToNat]) ?_ rfl
    simp only [go_sem, reduceCtorEq, reduceIte, Nat.reduceAdd, Nat.reduceMul, Nat.reduceEqDiff, Nat.reduceLeDiff, Nat.reduceSub, Nat.reduceLT, Nat.reduceGT, Int.reduceLE, Int.reduceLT, Int.reduceEq, Int.reduceNeg, Int.reduceAdd, Int.reduceSub, Int.reduceToNat]
    refine fin _ ?_
    simp only [Bool.and_eq_true, decide_eq_true_eq]
    omega
end Go.Proofs.Ytmmfbjmjhjmccaa.Am
