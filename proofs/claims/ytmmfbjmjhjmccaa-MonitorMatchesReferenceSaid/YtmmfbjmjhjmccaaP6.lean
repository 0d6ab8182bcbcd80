import Derived.Test.YtmmfbjmjhjmccaaP5
namespace Go.Proofs.Ytmmfbjmjhjmccaa.Am
open Go
attribute [local irreducible] awp seqK blkK backK endK inlK restK rngK asgK itK
set_option maxRecDepth 100000
set_option maxHeartbeats 8000000
set_option linter.unusedSimpArgs false
set_option linter.unusedVariables false
attribute [local irreducible] tabOf
def gCells (g : Ga) (f1 f2 : Bool) (z1 z2 : List AV) : List AV := [.i g.d, .sl 3 f1 (g.R.map row3) z1, .i g.tol, .i g.rate, .sl 2 f2 (g.S.map row2) z2]
/-- The samples that count. -/
def countedL (d : Int) (R : List Rd3) (tol : Int) : Int → List Sm → List Fc
  | _, [] => []
  | i, (a, v) :: S => if (atS d R a).2.2 = 0 then (i, v - tol, v + tol, (atS d R a).1, (atS d R a).2.1) :: countedL d R tol (i + 1) S else countedL d R tol (i + 1) S
def factsG (g : Ga) : List Fc := countedL g.d g.R g.tol 0 g.S

theorem chain2_get : ∀ {R : List Sm} {l : Int} (_ : chain2 l R = true) (r : Sm), r ∈ R → l < r.1 ∧ r.1 ≤ 10000000 ∧ -1000000 ≤ r.2 ∧ r.2 ≤ 1000000
  | [], _, _, r, hr => by simp at hr
  | (a, b) :: R, l, h, r, hr => by
    simp only [chain2, Bool.and_eq_true, decide_eq_true_eq] at h
    rcases List.mem_cons.1 hr with rfl | hr
    · simp; omega
    · have := chain2_get h.2 r hr
      omega

theorem around_bd (d l : Int) : ∀ (R : List Rd3) (w : Int × Int), w.1 ≤ (R.foldl (stepA d l) w).1 ∧ (R.foldl (stepA d l) w).2 ≤ w.2
  | [], w => by simp
  | r :: R, w => by
    rw [List.foldl_cons]
    have h1 := around_bd d l R (stepA d l w r)
    have h2 : w.1 ≤ (stepA d l w r).1 ∧ (stepA d l w r).2 ≤ w.2 := by
      unfold stepA
      simp only
      split
      · simp only; omega
      · split
        · simp only; omega
        · simp only; omega
    omega

theorem atS_bd {d l : Int} {R : List Rd3} (h : (atS d R l).2.2 = 0) : 0 ≤ (atS d R l).1 ∧ (atS d R l).1 ≤ (atS d R l).2.1 ∧ (atS d R l).2.1 ≤ 10000000 := by
  have hb := around_bd d l R (0, 10000000)
  change 0 ≤ (aroundS d l R).1 ∧ (aroundS d l R).2 ≤ 10000000 at hb
  unfold atS at h ⊢
  split at h
  · simp at h
  · rename_i h1
    rw [if_neg h1]
    split at h
    · simp at h
    · rename_i h2
      rw [if_neg h2]
      simp only
      omega

theorem counted_FB {d : Int} {R : List Rd3} {tol : Int} (ht : 0 ≤ tol ∧ tol ≤ 1000) : ∀ {S : List Sm} {i : Int} (_ : ∀ r ∈ S, -1000000 ≤ r.2 ∧ r.2 ≤ 1000000) (f : Fc), f ∈ countedL d R tol i S → FB f
  | [], i, _, f, hf => by simp [countedL] at hf
  | (a, v) :: S, i, h, f, hf => by
    simp only [countedL] at hf
    have hv := h (a, v) (by simp)
    have ih := @counted_FB d R tol ht S (i + 1) (fun r hr => h r (by simp [hr]))
    split at hf
    · rename_i h0
      rcases List.mem_cons.1 hf with rfl | hf
      · have := atS_bd h0
        simp only [FB]
        omega
      · exact ih f hf
    · exact ih f hf

theorem validG_parts {g : Ga} (h : validG g = true) : chain2 (-1) g.S = true ∧ validC g.d g.R = true ∧ (0 ≤ g.tol ∧ g.tol ≤ 1000) ∧ (0 ≤ g.rate ∧ g.rate ≤ 1000) ∧ g.S.length ≤ 24 := by
  simp only [validG, Bool.and_eq_true, decide_eq_true_eq] at h
  exact ⟨h.1, h.2.1.1.1, h.2.1.1.2, h.2.1.2, by omega⟩

theorem facts_FB {g : Ga} (h : validG g = true) : ∀ f ∈ factsG g, FB f := by
  obtain ⟨h1, _, h3, _⟩ := validG_parts h
  exact counted_FB h3 fun r hr => (chain2_get h1 r hr).2.2

def S9 : List (Nat × Spec) := [(29, sAt)]
theorem S9_ok : TabOK Try.prog (tabOf S9) := tab_cons at_fok tab_nil
attribute [local irreducible] S9

theorem counted_it (g : Ga) (f1 f2 : Bool) (z1 z2 : List AV) (hv : validG g = true) : ItC Try.prog 49 [] [.ro (gCells g f1 f2 z1 z2) 0] ((factsG g).map fun f => [fcAV f]) := by
  obtain ⟨h1, h2, h3, h4, h5⟩ := validG_parts hv
  obtain ⟨d, R, tol, rate, S⟩ := g
  simp only at h1 h2 h3 h4 h5
  refine itc_fnF S9_ok _ Try.func49 ok49 nt49 (by simp [gs]) (by simp) fun l Γ hOK hTS hY => ?_
  have hS := S9_ok
  unfold ac49
  simp only [gCells]
  repeat' (first
    | ((first | with_reducible apply awp_sr5 | with_reducible apply awp_r5 | with_reducible apply awp_sd | with_reducible apply awp_d | with_reducible apply inlR_n5 | with_reducible apply inlR_r5); (· (first | exact Ctx.fn_ok hS | exact Ctx.rd_ok hS | assumption | exact True.intro)); iterate 2 (· (simp only [go_sem, seval, hTS] <;> eq_refl)))
    | (first | with_reducible apply awp_scp | with_reducible apply awp_sn | with_reducible apply awp_nop | with_reducible apply awp_ret | with_reducible apply awp_exit | with_reducible apply awp_block | with_reducible apply awp_seq | with_reducible apply seqK_n | with_reducible apply seqK_r | with_reducible apply seqK_x | with_reducible apply blkK_n | with_reducible apply blkK_r | with_reducible apply blkK_x)
    | (with_reducible apply blkK_y; (· first | rfl | decide))
    | (first | with_reducible apply backK_x | with_reducible apply backK_r | with_reducible apply asgK_n | with_reducible apply rngK_x | with_reducible apply rngK_r | with_reducible apply True.intro | with_reducible apply And.intro True.intro True.intro)
    | (fail_if_success with_reducible apply K_id); (fail_if_success with_reducible apply awp_id); first | omega | (simp only [go_sem, seval, hTS]; done)
    | fail)
  refine awp_loop (fun x : Nat × Nat × Nat => ⟨[(11, .i x.1), (10, .i S.length), (9, .sl 2 f2 (S.map row2) z2), (gs, ghost x.2.1), (0, .clo (.yield l) [] []), (1, .ro [.i d, .sl 3 f1 (R.map row3) z1, .i tol, .i rate, .sl 2 f2 (S.map row2) z2] 0)], [], x.2.2⟩)
    (fun x => x.1 ≤ S.length ∧ (factsG ⟨d, R, tol, rate, S⟩).drop x.2.1 = countedL d R tol x.1 (S.drop x.1) ∧ x.2.1 ≤ (factsG ⟨d, R, tol, rate, S⟩).length) (fun x => S.length - x.1) (0, 0, 50) ?_ ?_ ?_
  · simp [factsG]
  · refine Le.of ?_ ?_ (by simp) <;> (simp only [go_sem, seval]; try simp)
  · rintro ⟨i, k, c⟩ ⟨hi, hk, hkl⟩
    simp only at hi hk hkl
    repeat' (first
    | ((first | with_reducible apply awp_sr5 | with_reducible apply awp_r5 | with_reducible apply awp_sd | with_reducible apply awp_d | with_reducible apply inlR_n5 | with_reducible apply inlR_r5); (· (first | exact Ctx.fn_ok hS | exact Ctx.rd_ok hS | assumption | exact True.intro)); iterate 2 (· (simp only [go_sem, seval, hTS] <;> eq_refl)))
    | (first | with_reducible apply awp_scp | with_reducible apply awp_sn | with_reducible apply awp_nop | with_reducible apply awp_ret | with_reducible apply awp_exit | with_reducible apply awp_block | with_reducible apply awp_seq | with_reducible apply seqK_n | with_reducible apply seqK_r | with_reducible apply seqK_x | with_reducible apply blkK_n | with_reducible apply blkK_r | with_reducible apply blkK_x)
    | (with_reducible apply blkK_y; (· first | rfl | decide))
    | (first | with_reducible apply backK_x | with_reducible apply backK_r | with_reducible apply asgK_n | with_reducible apply rngK_x | with_reducible apply rngK_r | with_reducible apply True.intro | with_reducible apply And.intro True.intro True.intro)
    | (fail_if_success with_reducible apply K_id); (fail_if_success with_reducible apply awp_id); first | omega | (simp only [go_sem, seval, hTS]; done)
    | fail)
    refine awp_cp ((i : Int) < S.length) (by simp only [go_sem, seval] <;> eq_refl) (by first | simp only [Bool.decide_or, Bool.decide_and, decide_not] | simp) (fun hi1 => ?_) (fun hi1 => ?_)
    · have hi' : i < S.length := by omega
      obtain ⟨⟨a, v⟩, hr⟩ : ∃ r, S[i] = r := ⟨_, rfl⟩
      have hrow : rowAt (S.map row2) z2 i = [.i a, .i v] := by
        simp [rowAt, List.getD_eq_getElem?_getD, hi', hr, row2]
      have hdrop : S.drop i = (a, v) :: S.drop (i + 1) := by rw [List.drop_eq_getElem_cons hi', hr]
      have hav := chain2_get h1 (a, v) (by rw [← hr]; exact List.getElem_mem _)
      simp only at hav
      rw [hdrop] at hk
      simp only [countedL] at hk
      repeat' (first
    | ((first | with_reducible apply awp_sr5 | with_reducible apply awp_r5 | with_reducible apply awp_sd | with_reducible apply awp_d | with_reducible apply inlR_n5 | with_reducible apply inlR_r5); (· (first | exact Ctx.fn_ok hS | exact Ctx.rd_ok hS | assumption | exact True.intro)); iterate 2 (· (simp only [go_sem, seval, hrow, hTS] <;> eq_refl)))
    | (first | with_reducible apply awp_scp | with_reducible apply awp_sn | with_reducible apply awp_nop | with_reducible apply awp_ret | with_reducible apply awp_exit | with_reducible apply awp_block | with_reducible apply awp_seq | with_reducible apply seqK_n | with_reducible apply seqK_r | with_reducible apply seqK_x | with_reducible apply blkK_n | with_reducible apply blkK_r | with_reducible apply blkK_x)
    | (with_reducible apply blkK_y; (· first | rfl | decide))
    | (first | with_reducible apply backK_x | with_reducible apply backK_r | with_reducible apply asgK_n | with_reducible apply rngK_x | with_reducible apply rngK_r | with_reducible apply True.intro | with_reducible apply And.intro True.intro True.intro)
    | (fail_if_success with_reducible apply K_id); (fail_if_success with_reducible apply awp_id); first | omega | (simp only [go_sem, seval, hrow, hTS]; done)
    | fail)
      (first | with_reducible apply awp_sr | with_reducible apply awp_r | with_reducible apply awp_seq); (· (first | exact Ctx.fn_ok hS | exact Ctx.rd_ok hS | assumption | exact True.intro)); (· (simp only [go_sem, seval, hTS, Am.S9, Am.sAt, Am.dec3_row3] <;> eq_refl)); (· (first | with_reducible apply True.intro | omega | (simp only [go_sem, seval, hTS, Am.S9, Am.sAt, Am.dec3_row3]; done)))
      refine seqK_n ?_
      refine awp_seq ?_
      by_cases h0 : (atS d R a).2.2 = 0
      · rw [if_pos h0] at hk
        have hkl' : k < (factsG ⟨d, R, tol, rate, S⟩).length := by
          have := congrArg List.length hk
          simp at this
          omega
        refine hY 18 (args := [fcAV (i, v - tol, v + tol, (atS d R a).1, (atS d R a).2.1)]) rfl (by simp only [go_sem, seval, hTS] <;> eq_refl) (by simp only [go_sem, seval, hTS, h0] <;> eq_refl) (by omega) (by simp only [go_sem, seval, h0] <;> eq_refl) (by simp only [go_sem, seval] <;> eq_refl) (by simp only [go_sem, seval] <;> eq_refl) (by simp only [go_sem, seval, Am.fcAV] <;> eq_refl) ?_ (by simp only [go_sem, seval, hTS] <;> eq_refl) ?_ ?_ (by simp only [go_sem, seval, hTS] <;> eq_refl) ?_ ?_
        · have : (factsG ⟨d, R, tol, rate, S⟩)[k]? = ((factsG ⟨d, R, tol, rate, S⟩).drop k)[0]? := by simp
          rw [List.getElem?_map, this, hk]
          rfl
        · exact True.intro
        · repeat' (first
    | ((first | with_reducible apply awp_sr5 | with_reducible apply awp_r5 | with_reducible apply awp_sd | with_reducible apply awp_d | with_reducible apply inlR_n5 | with_reducible apply inlR_r5); (· (first | exact Ctx.fn_ok hS | exact Ctx.rd_ok hS | assumption | exact True.intro)); iterate 2 (· (simp only [go_sem, seval, hTS] <;> eq_refl)))
    | (first | with_reducible apply awp_scp | with_reducible apply awp_sn | with_reducible apply awp_nop | with_reducible apply awp_ret | with_reducible apply awp_exit | with_reducible apply awp_block | with_reducible apply awp_seq | with_reducible apply seqK_n | with_reducible apply seqK_r | with_reducible apply seqK_x | with_reducible apply blkK_n | with_reducible apply blkK_r | with_reducible apply blkK_x)
    | (with_reducible apply blkK_y; (· first | rfl | decide))
    | (first | with_reducible apply backK_x | with_reducible apply backK_r | with_reducible apply asgK_n | with_reducible apply rngK_x | with_reducible apply rngK_r | with_reducible apply True.intro | with_reducible apply And.intro True.intro True.intro)
    | (fail_if_success with_reducible apply K_id); (fail_if_success with_reducible apply awp_id); first | omega | (simp only [go_sem, seval, hTS]; done)
    | fail)
          refine awp_cf (by simp only [go_sem, seval] <;> eq_refl) ?_
          repeat' (first
    | ((first | with_reducible apply awp_sr5 | with_reducible apply awp_r5 | with_reducible apply awp_sd | with_reducible apply awp_d | with_reducible apply inlR_n5 | with_reducible apply inlR_r5); (· (first | exact Ctx.fn_ok hS | exact Ctx.rd_ok hS | assumption | exact True.intro)); iterate 2 (· (simp only [go_sem, seval, hTS] <;> eq_refl)))
    | (first | with_reducible apply awp_scp | with_reducible apply awp_sn | with_reducible apply awp_nop | with_reducible apply awp_ret | with_reducible apply awp_exit | with_reducible apply awp_block | with_reducible apply awp_seq | with_reducible apply seqK_n | with_reducible apply seqK_r | with_reducible apply seqK_x | with_reducible apply blkK_n | with_reducible apply blkK_r | with_reducible apply blkK_x)
    | (with_reducible apply blkK_y; (· first | rfl | decide))
    | (first | with_reducible apply backK_x | with_reducible apply backK_r | with_reducible apply asgK_n | with_reducible apply rngK_x | with_reducible apply rngK_r | with_reducible apply True.intro | with_reducible apply And.intro True.intro True.intro)
    | (fail_if_success with_reducible apply K_id); (fail_if_success with_reducible apply awp_id); first | omega | (simp only [go_sem, seval, hTS]; done)
    | fail)
          refine backK_n (i + 1, k + 1, c + 50) ⟨by omega, ?_, by show k + 1 ≤ _; omega⟩ (by show S.length - (i + 1) < S.length - i; omega) (Le.of ?_ ?_ ?_)
          · have : (factsG ⟨d, R, tol, rate, S⟩).drop (k + 1) = ((factsG ⟨d, R, tol, rate, S⟩).drop k).drop 1 := by simp
            rw [this, hk]
            simp
          · simp only [go_sem, seval] <;> simp
          · simp only [go_sem, seval]
          · simp
        · exact True.intro
        · repeat' (first
    | ((first | with_reducible apply awp_sr5 | with_reducible apply awp_r5 | with_reducible apply awp_sd | with_reducible apply awp_d | with_reducible apply inlR_n5 | with_reducible apply inlR_r5); (· (first | exact Ctx.fn_ok hS | exact Ctx.rd_ok hS | assumption | exact True.intro)); iterate 2 (· (simp only [go_sem, seval, hTS] <;> eq_refl)))
    | (first | with_reducible apply awp_scp | with_reducible apply awp_sn | with_reducible apply awp_nop | with_reducible apply awp_ret | with_reducible apply awp_exit | with_reducible apply awp_block | with_reducible apply awp_seq | with_reducible apply seqK_n | with_reducible apply seqK_r | with_reducible apply seqK_x | with_reducible apply blkK_n | with_reducible apply blkK_r | with_reducible apply blkK_x)
    | (with_reducible apply blkK_y; (· first | rfl | decide))
    | (first | with_reducible apply backK_x | with_reducible apply backK_r | with_reducible apply asgK_n | with_reducible apply rngK_x | with_reducible apply rngK_r | with_reducible apply True.intro | with_reducible apply And.intro True.intro True.intro)
    | (fail_if_success with_reducible apply K_id); (fail_if_success with_reducible apply awp_id); first | omega | (simp only [go_sem, seval, hTS]; done)
    | fail)
          refine awp_ct (by simp only [go_sem, seval] <;> eq_refl) ?_
          repeat' (first
    | ((first | with_reducible apply awp_sr5 | with_reducible apply awp_r5 | with_reducible apply awp_sd | with_reducible apply awp_d | with_reducible apply inlR_n5 | with_reducible apply inlR_r5); (· (first | exact Ctx.fn_ok hS | exact Ctx.rd_ok hS | assumption | exact True.intro)); iterate 2 (· (simp only [go_sem, seval, hTS] <;> eq_refl)))
    | (first | with_reducible apply awp_scp | with_reducible apply awp_sn | with_reducible apply awp_nop | with_reducible apply awp_ret | with_reducible apply awp_exit | with_reducible apply awp_block | with_reducible apply awp_seq | with_reducible apply seqK_n | with_reducible apply seqK_r | with_reducible apply seqK_x | with_reducible apply blkK_n | with_reducible apply blkK_r | with_reducible apply blkK_x)
    | (with_reducible apply blkK_y; (· first | rfl | decide))
    | (first | with_reducible apply backK_x | with_reducible apply backK_r | with_reducible apply asgK_n | with_reducible apply rngK_x | with_reducible apply rngK_r | with_reducible apply True.intro | with_reducible apply And.intro True.intro True.intro)
    | (fail_if_success with_reducible apply K_id); (fail_if_success with_reducible apply awp_id); first | omega | (simp only [go_sem, seval, hTS]; done)
    | fail)
          refine itK_r' ?_
          simp only [go_sem, seval]
      · rw [if_neg h0] at hk
        repeat' (first
    | ((first | with_reducible apply awp_sr5 | with_reducible apply awp_r5 | with_reducible apply awp_sd | with_reducible apply awp_d | with_reducible apply inlR_n5 | with_reducible apply inlR_r5); (· (first | exact Ctx.fn_ok hS | exact Ctx.rd_ok hS | assumption | exact True.intro)); iterate 2 (· (simp only [go_sem, seval, hTS, h0] <;> eq_refl)))
    | (first | with_reducible apply awp_scp | with_reducible apply awp_sn | with_reducible apply awp_nop | with_reducible apply awp_ret | with_reducible apply awp_exit | with_reducible apply awp_block | with_reducible apply awp_seq | with_reducible apply seqK_n | with_reducible apply seqK_r | with_reducible apply seqK_x | with_reducible apply blkK_n | with_reducible apply blkK_r | with_reducible apply blkK_x)
    | (with_reducible apply blkK_y; (· first | rfl | decide))
    | (first | with_reducible apply backK_x | with_reducible apply backK_r | with_reducible apply asgK_n | with_reducible apply rngK_x | with_reducible apply rngK_r | with_reducible apply True.intro | with_reducible apply And.intro True.intro True.intro)
    | (fail_if_success with_reducible apply K_id); (fail_if_success with_reducible apply awp_id); first | omega | (simp only [go_sem, seval, hTS, h0]; done)
    | fail)
        refine awp_cf (by simp only [go_sem, seval] <;> eq_refl) ?_
        repeat' (first
    | ((first | with_reducible apply awp_sr5 | with_reducible apply awp_r5 | with_reducible apply awp_sd | with_reducible apply awp_d | with_reducible apply inlR_n5 | with_reducible apply inlR_r5); (· (first | exact Ctx.fn_ok hS | exact Ctx.rd_ok hS | assumption | exact True.intro)); iterate 2 (· (simp only [go_sem, seval, hTS] <;> eq_refl)))
    | (first | with_reducible apply awp_scp | with_reducible apply awp_sn | with_reducible apply awp_nop | with_reducible apply awp_ret | with_reducible apply awp_exit | with_reducible apply awp_block | with_reducible apply awp_seq | with_reducible apply seqK_n | with_reducible apply seqK_r | with_reducible apply seqK_x | with_reducible apply blkK_n | with_reducible apply blkK_r | with_reducible apply blkK_x)
    | (with_reducible apply blkK_y; (· first | rfl | decide))
    | (first | with_reducible apply backK_x | with_reducible apply backK_r | with_reducible apply asgK_n | with_reducible apply rngK_x | with_reducible apply rngK_r | with_reducible apply True.intro | with_reducible apply And.intro True.intro True.intro)
    | (fail_if_success with_reducible apply K_id); (fail_if_success with_reducible apply awp_id); first | omega | (simp only [go_sem, seval, hTS]; done)
    | fail)
        refine backK_n (i + 1, k, c + 50) ⟨by omega, ?_, by show k ≤ _; omega⟩ (by show S.length - (i + 1) < S.length - i; omega) (Le.of ?_ ?_ ?_)
        · rw [hk]; simp
        · simp only [go_sem, seval] <;> simp
        · simp only [go_sem, seval]
        · simp
    · repeat' (first
    | ((first | with_reducible apply awp_sr5 | with_reducible apply awp_r5 | with_reducible apply awp_sd | with_reducible apply awp_d | with_reducible apply inlR_n5 | with_reducible apply inlR_r5); (· (first | exact Ctx.fn_ok hS | exact Ctx.rd_ok hS | assumption | exact True.intro)); iterate 2 (· (simp only [go_sem, seval, hTS] <;> eq_refl)))
    | (first | with_reducible apply awp_scp | with_reducible apply awp_sn | with_reducible apply awp_nop | with_reducible apply awp_ret | with_reducible apply awp_exit | with_reducible apply awp_block | with_reducible apply awp_seq | with_reducible apply seqK_n | with_reducible apply seqK_r | with_reducible apply seqK_x | with_reducible apply blkK_n | with_reducible apply blkK_r | with_reducible apply blkK_x)
    | (with_reducible apply blkK_y; (· first | rfl | decide))
    | (first | with_reducible apply backK_x | with_reducible apply backK_r | with_reducible apply asgK_n | with_reducible apply rngK_x | with_reducible apply rngK_r | with_reducible apply True.intro | with_reducible apply And.intro True.intro True.intro)
    | (fail_if_success with_reducible apply K_id); (fail_if_success with_reducible apply awp_id); first | omega | (simp only [go_sem, seval, hTS]; done)
    | fail)
      refine itK_n ?_
      have : i = S.length := by omega
      subst this
      simp [countedL] at hk
      have : k = (factsG ⟨d, R, tol, rate, S⟩).length := by omega
      simp only [go_sem, seval, this]

theorem counted_ok (g : Ga) (f1 f2 : Bool) (z1 z2 : List AV) : PCall Try.prog 43 [.agg (gCells g f1 f2 z1 z2)] (.clo (.func 49) [] [.ro (gCells g f1 f2 z1 z2) 0]) := by
  refine pcall_fn S0_ok _ Try.func43 ok43 nt43 (by simp) fun _ => ?_
  have hS := S0_ok
  unfold ac43 rv43
  simp only [gCells]
  repeat' (first
    | ((first | with_reducible apply awp_sr5 | with_reducible apply awp_r5 | with_reducible apply awp_sd | with_reducible apply awp_d | with_reducible apply inlR_n5 | with_reducible apply inlR_r5); (· (first | exact Ctx.fn_ok hS | exact Ctx.rd_ok hS | assumption | exact True.intro)); iterate 2 (· (simp only [go_sem, seval] <;> eq_refl)))
    | (first | with_reducible apply awp_scp | with_reducible apply awp_sn | with_reducible apply awp_nop | with_reducible apply awp_ret | with_reducible apply awp_exit | with_reducible apply awp_block | with_reducible apply awp_seq | with_reducible apply seqK_n | with_reducible apply seqK_r | with_reducible apply seqK_x | with_reducible apply blkK_n | with_reducible apply blkK_r | with_reducible apply blkK_x)
    | (with_reducible apply blkK_y; (· first | rfl | decide))
    | (first | with_reducible apply backK_x | with_reducible apply backK_r | with_reducible apply asgK_n | with_reducible apply rngK_x | with_reducible apply rngK_r | with_reducible apply True.intro | with_reducible apply And.intro True.intro True.intro)
    | (fail_if_success with_reducible apply K_id); (fail_if_success with_reducible apply awp_id); first | omega | (simp only [go_sem, seval]; done)
    | fail)
  first | refine endK_r (by simp only [go_sem, seval] <;> eq_refl) (by simp only [go_sem, seval]) (by simp only [go_sem, seval]) ?_ rfl | refine endK_n (by simp only [go_sem, seval] <;> eq_refl) (by simp only [go_sem, seval]) (by simp only [go_sem, seval]) ?_ rfl
  simp only [go_sem, seval]

def sCounted : Spec
  | [.agg [.v (.int .i64 d), .sl 3 f1 rows1 z1, .v (.int .i64 tol), .v (.int .i64 rate), .sl 2 f2 rows2 z2]] => some (rows1 = (rows1.map dec3).map row3 ∧ rows2 = (rows2.map dec2).map row2,
      .clo (.func 49) [] [.ro [.i d, .sl 3 f1 rows1 z1, .i tol, .i rate, .sl 2 f2 rows2 z2] 0])
  | _ => none
theorem counted_fok : FOK Try.prog 43 sCounted := ⟨of43, by
  intro args vc r h hv
  unfold sCounted at h
  split at h
  · rename_i d f1 rows1 z1 tol rate f2 rows2 z2
    cases h
    have := counted_ok ⟨d, rows1.map dec3, tol, rate, rows2.map dec2⟩ f1 f2 z1 z2
    simp only [gCells] at this
    rw [← hv.1, ← hv.2] at this
    exact this
  · simp at h⟩

theorem everything_ok : PCall Try.prog 51 [] (bdAV (-1000000, 1000000, -1, -1)) := by
  refine pcall_fn S0_ok _ Try.func51 ok51 nt51 (by simp) fun _ => ?_
  have hS := S0_ok
  unfold ac51 rv51
  repeat' (first
    | ((first | with_reducible apply awp_sr5 | with_reducible apply awp_r5 | with_reducible apply awp_sd | with_reducible apply awp_d | with_reducible apply inlR_n5 | with_reducible apply inlR_r5); (· (first | exact Ctx.fn_ok hS | exact Ctx.rd_ok hS | assumption | exact True.intro)); iterate 2 (· (simp only [go_sem, seval] <;> eq_refl)))
    | (first | with_reducible apply awp_scp | with_reducible apply awp_sn | with_reducible apply awp_nop | with_reducible apply awp_ret | with_reducible apply awp_exit | with_reducible apply awp_block | with_reducible apply awp_seq | with_reducible apply seqK_n | with_reducible apply seqK_r | with_reducible apply seqK_x | with_reducible apply blkK_n | with_reducible apply blkK_r | with_reducible apply blkK_x)
    | (with_reducible apply blkK_y; (· first | rfl | decide))
    | (first | with_reducible apply backK_x | with_reducible apply backK_r | with_reducible apply asgK_n | with_reducible apply rngK_x | with_reducible apply rngK_r | with_reducible apply True.intro | with_reducible apply And.intro True.intro True.intro)
    | (fail_if_success with_reducible apply K_id); (fail_if_success with_reducible apply awp_id); first | omega | (simp only [go_sem, seval]; done)
    | fail)
  first | refine endK_r (by simp only [go_sem, seval] <;> eq_refl) (by simp only [go_sem, seval]) (by simp only [go_sem, seval]) ?_ rfl | refine endK_n (by simp only [go_sem, seval] <;> eq_refl) (by simp only [go_sem, seval]) (by simp only [go_sem, seval]) ?_ rfl
  simp only [bdAV, go_sem, seval]
def sEverything : Spec
  | [] => some (True, bdAV (-1000000, 1000000, -1, -1))
  | _ => none
theorem everything_fok : FOK Try.prog 51 sEverything := ⟨of51, by
  intro args vc r h hv
  unfold sEverything at h
  split at h
  · cases h; exact everything_ok
  · simp at h⟩

def sFolded (fi : Nat) (cells : List AV) (xs : List Fc) : Spec
  | [.agg [.v (.int .i64 b1), .v (.int .i64 b2), .v (.int .i64 b3), .v (.int .i64 b4)], .clo (.func f') [] [.ro cells' 0], .clo (.func 52) [] [.ro [.v (.int .i64 rate)] 0, .ro [.v (.int .i64 t)] 0]] =>
    some (f' = fi ∧ cells' = cells ∧ (∀ f ∈ xs, FB f) ∧ (0 ≤ rate ∧ rate ≤ 1000) ∧ (0 ≤ t ∧ t ≤ 10000000), bdAV (xs.foldl (lookStep rate t) (b1, b2, b3, b4)))
  | _ => none
theorem folded_fok {fi : Nat} {cells : List AV} {xs : List Fc} (hit : ItC Try.prog fi [] [.ro cells 0] (xs.map fun f => [fcAV f])) (hof : okF Try.prog fi) (hcap : pureL cells = true) : FOK Try.prog 50 (sFolded fi cells xs) := ⟨of50, by
  intro args vc r h hv
  unfold sFolded at h
  split at h
  · cases h
    obtain ⟨rfl, rfl, h1, h2, h3⟩ := hv
    exact folded_ok xs hit hof (by simp [pureL, pureA, hcap]) (_, _, _, _) _ _ h1 h2 h3
  · simp at h⟩

theorem look_ok {fi : Nat} {cells : List AV} {xs : List Fc} (hit : ItC Try.prog fi [] [.ro cells 0] (xs.map fun f => [fcAV f])) (hof : okF Try.prog fi) (hcap : pureL cells = true) (rate t : Int) (hxs : ∀ f ∈ xs, FB f) (hr : 0 ≤ rate ∧ rate ≤ 1000) (ht : 0 ≤ t ∧ t ≤ 10000000) :
    PCall Try.prog 45 [.clo (.func fi) [] [.ro cells 0], .i rate, .i t] (bdAV (lookS rate t xs)) := by
  have hS : TabOK Try.prog (tabOf [(51, sEverything), (50, sFolded fi cells xs)]) := tab_cons everything_fok (tab_cons (folded_fok hit hof hcap) tab_nil)
  refine pcall_fn hS _ Try.func45 ok45 nt45 (by simp) fun _ => ?_
  unfold ac45 rv45
  repeat' (first
    | ((first | with_reducible apply awp_sr5 | with_reducible apply awp_r5 | with_reducible apply awp_sd | with_reducible apply awp_d | with_reducible apply inlR_n5 | with_reducible apply inlR_r5); (· (first | exact Ctx.fn_ok hS | exact Ctx.rd_ok hS | assumption | exact True.intro)); iterate 2 (· (simp only [go_sem, seval, Am.sEverything, Am.sFolded, Am.bdAV, hcap, hr.1, hr.2, ht.1, ht.2] <;> eq_refl)))
    | (first | with_reducible apply awp_scp | with_reducible apply awp_sn | with_reducible apply awp_nop | with_reducible apply awp_ret | with_reducible apply awp_exit | with_reducible apply awp_block | with_reducible apply awp_seq | with_reducible apply seqK_n | with_reducible apply seqK_r | with_reducible apply seqK_x | with_reducible apply blkK_n | with_reducible apply blkK_r | with_reducible apply blkK_x)
    | (with_reducible apply blkK_y; (· first | rfl | decide))
    | (first | with_reducible apply backK_x | with_reducible apply backK_r | with_reducible apply asgK_n | with_reducible apply rngK_x | with_reducible apply rngK_r | with_reducible apply True.intro | with_reducible apply And.intro True.intro True.intro)
    | (fail_if_success with_reducible apply K_id); (fail_if_success with_reducible apply awp_id); first | omega | (simp only [go_sem, seval, Am.sEverything, Am.sFolded, Am.bdAV, hcap, hr.1, hr.2, ht.1, ht.2]; done)
    | fail)
  first | refine endK_r (by simp only [go_sem, seval] <;> eq_refl) (by simp only [go_sem, seval]) (by simp only [go_sem, seval]) ?_ rfl | refine endK_n (by simp only [go_sem, seval] <;> eq_refl) (by simp only [go_sem, seval]) (by simp only [go_sem, seval]) ?_ rfl
  simp only [lookS, bdAV, go_sem, seval]

def sLook (fi : Nat) (cells : List AV) (xs : List Fc) : Spec
  | [.clo (.func f') [] [.ro cells' 0], .v (.int .i64 rate), .v (.int .i64 t)] =>
    some (f' = fi ∧ cells' = cells ∧ (∀ f ∈ xs, FB f) ∧ (0 ≤ rate ∧ rate ≤ 1000) ∧ (0 ≤ t ∧ t ≤ 10000000), bdAV (lookS rate t xs))
  | _ => none
theorem look_fok {fi : Nat} {cells : List AV} {xs : List Fc} (hit : ItC Try.prog fi [] [.ro cells 0] (xs.map fun f => [fcAV f])) (hof : okF Try.prog fi) (hcap : pureL cells = true) : FOK Try.prog 45 (sLook fi cells xs) := ⟨of45, by
  intro args vc r h hv
  unfold sLook at h
  split at h
  · cases h
    obtain ⟨rfl, rfl, h1, h2, h3⟩ := hv
    exact look_ok hit hof hcap _ _ h1 h2 h3
  · simp at h⟩

def foundS (g : Ga) (t : Int) : Bd × Bool :=
  if validG g = true ∧ 0 ≤ t ∧ t ≤ 10000000 then (lookS g.rate t (factsG g), decide ((lookS g.rate t (factsG g)).1 ≤ (lookS g.rate t (factsG g)).2.1)) else ((0, 0, 0, 0), false)

theorem found_ok (g : Ga) (f1 f2 : Bool) (z1 z2 : List AV) (t : Int) (hlen : g.S.length ≤ 1000) : PCall Try.prog 40 [.agg (gCells g f1 f2 z1 z2), .i t] (.tup [bdAV (foundS g t).1, .b (foundS g t).2]) := by
  by_cases hv : validG g = true
  · obtain ⟨_, _, h3, h4, h5⟩ := validG_parts hv
    have hS : TabOK Try.prog (tabOf [(16, sMonValid), (37, sIsIn), (43, sCounted), (45, sLook 49 (gCells g f1 f2 z1 z2) (factsG g))]) :=
      tab_cons monValid_fok (tab_cons isIn_fok (tab_cons counted_fok (tab_cons (look_fok (counted_it g f1 f2 z1 z2 hv) of49 (by simp [pureA, pureL, gCells])) tab_nil)))
    have hFB := facts_FB hv
    have hlk : ∀ rate t, bdAV (lookS rate t (factsG g)) = .agg [.i (lookS rate t (factsG g)).1, .i (lookS rate t (factsG g)).2.1, .i (lookS rate t (factsG g)).2.2.1, .i (lookS rate t (factsG g)).2.2.2] := fun _ _ => rfl
    have hfo : 0 ≤ t ∧ t ≤ 10000000 → foundS g t = (lookS g.rate t (factsG g), decide ((lookS g.rate t (factsG g)).1 ≤ (lookS g.rate t (factsG g)).2.1)) := fun h => by simp [foundS, hv, h]
    have hfn : ¬ (0 ≤ t ∧ t ≤ 10000000) → foundS g t = ((0, 0, 0, 0), false) := fun h => by simp only [foundS]; rw [if_neg (fun k => h k.2)]
    refine pcall_fn hS _ Try.func40 ok40 nt40 (by simp) fun _ => ?_
    unfold ac40 rv40
    obtain ⟨d, R, tol, rate, S⟩ := g
    simp only [gCells] at hlen ⊢ hS h3 h4
    repeat' (first
    | ((first | with_reducible apply awp_sr5 | with_reducible apply awp_r5 | with_reducible apply awp_sd | with_reducible apply awp_d | with_reducible apply inlR_n5 | with_reducible apply inlR_r5); (· (first | exact Ctx.fn_ok hS | exact Ctx.rd_ok hS | assumption | exact True.intro)); iterate 2 (· (simp only [go_sem, seval, Am.sMonValid, Am.sIsIn, Am.dec3_row3, Am.dec2_row2, hlen, hv] <;> eq_refl)))
    | (first | with_reducible apply awp_scp | with_reducible apply awp_sn | with_reducible apply awp_nop | with_reducible apply awp_ret | with_reducible apply awp_exit | with_reducible apply awp_block | with_reducible apply awp_seq | with_reducible apply seqK_n | with_reducible apply seqK_r | with_reducible apply seqK_x | with_reducible apply blkK_n | with_reducible apply blkK_r | with_reducible apply blkK_x)
    | (with_reducible apply blkK_y; (· first | rfl | decide))
    | (first | with_reducible apply backK_x | with_reducible apply backK_r | with_reducible apply asgK_n | with_reducible apply rngK_x | with_reducible apply rngK_r | with_reducible apply True.intro | with_reducible apply And.intro True.intro True.intro)
    | (fail_if_success with_reducible apply K_id); (fail_if_success with_reducible apply awp_id); first | omega | (simp only [go_sem, seval, Am.sMonValid, Am.sIsIn, Am.dec3_row3, Am.dec2_row2, hlen, hv]; done)
    | fail)
    refine awp_cp (¬ (0 ≤ t ∧ t ≤ 10000000)) (by simp only [go_sem, seval] <;> eq_refl) (by first | simp only [Bool.decide_or, Bool.decide_and, decide_not] | simp) (fun ht => ?_) (fun ht => ?_)
    · repeat' (first
    | ((first | with_reducible apply awp_sr5 | with_reducible apply awp_r5 | with_reducible apply awp_sd | with_reducible apply awp_d | with_reducible apply inlR_n5 | with_reducible apply inlR_r5); (· (first | exact Ctx.fn_ok hS | exact Ctx.rd_ok hS | assumption | exact True.intro)); iterate 2 (· (simp only [go_sem, seval] <;> eq_refl)))
    | (first | with_reducible apply awp_scp | with_reducible apply awp_sn | with_reducible apply awp_nop | with_reducible apply awp_ret | with_reducible apply awp_exit | with_reducible apply awp_block | with_reducible apply awp_seq | with_reducible apply seqK_n | with_reducible apply seqK_r | with_reducible apply seqK_x | with_reducible apply blkK_n | with_reducible apply blkK_r | with_reducible apply blkK_x)
    | (with_reducible apply blkK_y; (· first | rfl | decide))
    | (first | with_reducible apply backK_x | with_reducible apply backK_r | with_reducible apply asgK_n | with_reducible apply rngK_x | with_reducible apply rngK_r | with_reducible apply True.intro | with_reducible apply And.intro True.intro True.intro)
    | (fail_if_success with_reducible apply K_id); (fail_if_success with_reducible apply awp_id); first | omega | (simp only [go_sem, seval]; done)
    | fail)
      rw [hfn ht]
      first | refine endK_r (by simp only [go_sem, seval] <;> eq_refl) (by simp only [go_sem, seval]) (by simp only [go_sem, seval]) ?_ rfl | refine endK_n (by simp only [go_sem, seval] <;> eq_refl) (by simp only [go_sem, seval]) (by simp only [go_sem, seval]) ?_ rfl
      simp only [bdAV, go_sem, seval]
    · have ht' : 0 ≤ t ∧ t ≤ 10000000 := by omega
      rw [hfo ht']
      generalize hF : factsG ⟨d, R, tol, rate, S⟩ = xs at *
      repeat' (first
    | ((first | with_reducible apply awp_sr5 | with_reducible apply awp_r5 | with_reducible apply awp_sd | with_reducible apply awp_d | with_reducible apply inlR_n5 | with_reducible apply inlR_r5); (· (first | exact Ctx.fn_ok hS | exact Ctx.rd_ok hS | assumption | exact True.intro)); iterate 2 (· (simp only [go_sem, seval, Am.sCounted, Am.sLook, Am.dec3_row3, Am.dec2_row2, h4.1, h4.2, ht'.1, ht'.2, hlk] <;> eq_refl)))
    | (first | with_reducible apply awp_scp | with_reducible apply awp_sn | with_reducible apply awp_nop | with_reducible apply awp_ret | with_reducible apply awp_exit | with_reducible apply awp_block | with_reducible apply awp_seq | with_reducible apply seqK_n | with_reducible apply seqK_r | with_reducible apply seqK_x | with_reducible apply blkK_n | with_reducible apply blkK_r | with_reducible apply blkK_x)
    | (with_reducible apply blkK_y; (· first | rfl | decide))
    | (first | with_reducible apply backK_x | with_reducible apply backK_r | with_reducible apply asgK_n | with_reducible apply rngK_x | with_reducible apply rngK_r | with_reducible apply True.intro | with_reducible apply And.intro True.intro True.intro)
    | (fail_if_success with_reducible apply K_id); (fail_if_success with_reducible apply awp_id); first | omega | (simp only [go_sem, seval, Am.sCounted, Am.sLook, Am.dec3_row3, Am.dec2_row2, h4.1, h4.2, ht'.1, ht'.2, hlk]; done)
    | fail)
      first | refine endK_r (by simp only [go_sem, seval] <;> eq_refl) (by simp only [go_sem, seval]) (by simp only [go_sem, seval]) ?_ rfl | refine endK_n (by simp only [go_sem, seval] <;> eq_refl) (by simp only [go_sem, seval]) (by simp only [go_sem, seval]) ?_ rfl
      simp only [bdAV, go_sem, seval]
  · have hv' : validG g = false := by simpa using hv
    have hS : TabOK Try.prog (tabOf [(16, sMonValid), (37, sIsIn)]) := tab_cons monValid_fok (tab_cons isIn_fok tab_nil)
    have hfn : foundS g t = ((0, 0, 0, 0), false) := by simp only [foundS]; rw [if_neg (fun k => hv k.1)]
    rw [hfn]
    refine pcall_fn hS _ Try.func40 ok40 nt40 (by simp) fun _ => ?_
    unfold ac40 rv40
    obtain ⟨d, R, tol, rate, S⟩ := g
    simp only [gCells] at hlen ⊢
    repeat' (first
    | ((first | with_reducible apply awp_sr5 | with_reducible apply awp_r5 | with_reducible apply awp_sd | with_reducible apply awp_d | with_reducible apply inlR_n5 | with_reducible apply inlR_r5); (· (first | exact Ctx.fn_ok hS | exact Ctx.rd_ok hS | assumption | exact True.intro)); iterate 2 (· (simp only [go_sem, seval, Am.sMonValid, Am.sIsIn, Am.dec3_row3, Am.dec2_row2, hlen, hv'] <;> eq_refl)))
    | (first | with_reducible apply awp_scp | with_reducible apply awp_sn | with_reducible apply awp_nop | with_reducible apply awp_ret | with_reducible apply awp_exit | with_reducible apply awp_block | with_reducible apply awp_seq | with_reducible apply seqK_n | with_reducible apply seqK_r | with_reducible apply seqK_x | with_reducible apply blkK_n | with_reducible apply blkK_r | with_reducible apply blkK_x)
    | (with_reducible apply blkK_y; (· first | rfl | decide))
    | (first | with_reducible apply backK_x | with_reducible apply backK_r | with_reducible apply asgK_n | with_reducible apply rngK_x | with_reducible apply rngK_r | with_reducible apply True.intro | with_reducible apply And.intro True.intro True.intro)
    | (fail_if_success with_reducible apply K_id); (fail_if_success with_reducible apply awp_id); first | omega | (simp only [go_sem, seval, Am.sMonValid, Am.sIsIn, Am.dec3_row3, Am.dec2_row2, hlen, hv']; done)
    | fail)
    refine awp_ct (by simp only [go_sem, seval] <;> eq_refl) ?_
    repeat' (first
    | ((first | with_reducible apply awp_sr5 | with_reducible apply awp_r5 | with_reducible apply awp_sd | with_reducible apply awp_d | with_reducible apply inlR_n5 | with_reducible apply inlR_r5); (· (first | exact Ctx.fn_ok hS | exact Ctx.rd_ok hS | assumption | exact True.intro)); iterate 2 (· (simp only [go_sem, seval] <;> eq_refl)))
    | (first | with_reducible apply awp_scp | with_reducible apply awp_sn | with_reducible apply awp_nop | with_reducible apply awp_ret | with_reducible apply awp_exit | with_reducible apply awp_block | with_reducible apply awp_seq | with_reducible apply seqK_n | with_reducible apply seqK_r | with_reducible apply seqK_x | with_reducible apply blkK_n | with_reducible apply blkK_r | with_reducible apply blkK_x)
    | (with_reducible apply blkK_y; (· first | rfl | decide))
    | (first | with_reducible apply backK_x | with_reducible apply backK_r | with_reducible apply asgK_n | with_reducible apply rngK_x | with_reducible apply rngK_r | with_reducible apply True.intro | with_reducible apply And.intro True.intro True.intro)
    | (fail_if_success with_reducible apply K_id); (fail_if_success with_reducible apply awp_id); first | omega | (simp only [go_sem, seval]; done)
    | fail)
    first | refine endK_r (by simp only [go_sem, seval] <;> eq_refl) (by simp only [go_sem, seval]) (by simp only [go_sem, seval]) ?_ rfl | refine endK_n (by simp only [go_sem, seval] <;> eq_refl) (by simp only [go_sem, seval]) (by simp only [go_sem, seval]) ?_ rfl
    simp only [bdAV, go_sem, seval]

def sFound : Spec
  | [.agg [.v (.int .i64 d), .sl y1 _ rows1 _, .v (.int .i64 tol), .v (.int .i64 rate), .sl y2 _ rows2 _], .v (.int .i64 t)] => some ((y1 = 3 ∨ rows1 = []) ∧ rows1 = (rows1.map dec3).map row3 ∧ (y2 = 2 ∨ rows2 = []) ∧ rows2 = (rows2.map dec2).map row2 ∧ rows2.length ≤ 1000,
      .tup [bdAV (foundS ⟨d, rows1.map dec3, tol, rate, rows2.map dec2⟩ t).1, .b (foundS ⟨d, rows1.map dec3, tol, rate, rows2.map dec2⟩ t).2])
  | _ => none
theorem found_fok : FOK Try.prog 40 sFound := ⟨of40, by
  intro args vc r h hv
  unfold sFound at h
  split at h
  · rename_i d y1 f1 rows1 zs1 tol rate y2 f2 rows2 zs2 t
    cases h
    obtain ⟨h1, h2, h3, h4, h5⟩ := hv
    refine PCall.arg ?_ (found_ok ⟨d, rows1.map dec3, tol, rate, rows2.map dec2⟩ f1 f2 zs1 zs2 t (by simpa using h5))
    simp only [wkL, wk, gCells, and_true, true_and]
    exact ⟨⟨h2, h1, fun h => h⟩, h4, h3, fun h => h⟩
  · simp at h⟩
end Go.Proofs.Ytmmfbjmjhjmccaa.Am
