import Derived.Test.YtmmfbjmjhjmccaaP8
namespace Go.Proofs.Ytmmfbjmjhjmccaa.Am
open Go
attribute [local irreducible] awp seqK blkK backK endK inlK restK rngK asgK itK
set_option maxRecDepth 100000
set_option maxHeartbeats 8000000
set_option linter.unusedSimpArgs false
set_option linter.unusedVariables false
def lastR (R : List Rd3) : Rd3 := R.getD (R.length - 1) (0, 0, 0)
def stepM (drift start : Int) (rates : List Int) (t : Nat) (R : List Rd3) (p : Rd3) : List Rd3 :=
  if pickS p.1 3000 ≠ t then R else
    if R.length = 0 ∨ (lastR R).1 < shownS drift start rates t then R ++ [(shownS drift start rates t, max (t - pickS p.2.1 51) 0, t + pickS p.2.2 51)] else R
def made05 (drift start : Int) (rates : List Int) (at_ : List Rd3) : List Rd3 :=
  (List.range 3000).foldl (fun R t => (at_.take 12).foldl (stepM drift start rates t) R) []
theorem stepM_len {drift start : Int} {rates : List Int} {t : Nat} {R : List Rd3} {p : Rd3} : (stepM drift start rates t R p).length ≤ R.length + 1 := by
  unfold stepM
  split
  · omega
  · split <;> simp
theorem foldl_take_succ {α β : Type} (f : α → β → α) (a : α) (l : List β) (i : Nat) (x : β) (h : l[i]? = some x) : (l.take (i + 1)).foldl f a = f ((l.take i).foldl f a) x := by
  rw [List.take_add_one, h, List.foldl_append]; rfl
theorem rowAt_last (R : List Rd3) : rowAt (R.map row3) [.i 0, .i 0, .i 0] ((R.length : Int) - 1).toNat = [.i (lastR R).1, .i (lastR R).2.1, .i (lastR R).2.2] := by
  unfold lastR rowAt
  have : ((R.length : Int) - 1).toNat = R.length - 1 := by omega
  rw [this]
  rcases Nat.eq_zero_or_pos R.length with h | h
  · have : R = [] := List.eq_nil_of_length_eq_zero h
    subst this
    simp
  · have h1 : R.length - 1 < R.length := by omega
    simp [List.getD_eq_getElem?_getD, h1, row3]

def S20 : List (Nat × Spec) := [(47, sPick), (36, sShown)]
theorem S20_ok : TabOK Try.prog (tabOf S20) := tab_cons pick05_fok (tab_cons shown_fok tab_nil)

theorem made05_ok (drift start : Int) (rates : List Int) (at_ : List Rd3) (f1 f2 : Bool) (z1 z2 : List AV) (h1 : inI drift) (h2 : inI start) (h3 : ∀ r ∈ rates, inI r) (h4 : ∀ r ∈ at_, inI r.1 ∧ inI r.2.1 ∧ inI r.2.2) :
    PCall Try.prog 33 [.i drift, .i start, .sl 1 f1 (rates.map row1) z1, .sl 3 f2 (at_.map row3) z2] (.agg [.i (pickS drift 101), .sl 3 false ((made05 drift start rates at_).map row3) [.i 0, .i 0, .i 0]]) := by
  refine pcall_fn S20_ok _ Try.func33 ok33 nt33 (by simp) fun _ => ?_
  have hS := S20_ok
  unfold ac33 rv33
  obtain ⟨d, hd⟩ : ∃ d, pickS drift 101 = d := ⟨_, rfl⟩
  repeat' (first
    | ((first | with_reducible apply awp_sr5 | with_reducible apply awp_r5 | with_reducible apply awp_sd | with_reducible apply awp_d | with_reducible apply inlR_n5 | with_reducible apply inlR_r5); (· (first | exact Ctx.fn_ok hS | exact Ctx.rd_ok hS | assumption | exact True.intro)); iterate 2 (· (simp only [go_sem, seval, Am.S20, Am.sPick, Am.inI, h1.1, h1.2, hd] <;> eq_refl)))
    | (first | with_reducible apply awp_scp | with_reducible apply awp_sn | with_reducible apply awp_nop | with_reducible apply awp_ret | with_reducible apply awp_exit | with_reducible apply awp_block | with_reducible apply awp_seq | with_reducible apply seqK_n | with_reducible apply seqK_r | with_reducible apply seqK_x | with_reducible apply blkK_n | with_reducible apply blkK_r | with_reducible apply blkK_x)
    | (with_reducible apply blkK_y; (· first | rfl | decide))
    | (first | with_reducible apply backK_x | with_reducible apply backK_r | with_reducible apply asgK_n | with_reducible apply rngK_x | with_reducible apply rngK_r | with_reducible apply True.intro | with_reducible apply And.intro True.intro True.intro)
    | (fail_if_success with_reducible apply K_id); (fail_if_success with_reducible apply awp_id); first | omega | (simp only [go_sem, seval, Am.S20, Am.sPick, Am.inI, h1.1, h1.2, hd]; done)
    | fail)
  refine awp_claimC (103, 2) 1 3 [.i 0, .i 0, .i 0] (by omega) (by simp only [go_sem, seval] <;> eq_refl) ?_
  refine awp_loop (fun x : Nat × Nat × List Rd3 => ⟨[(10, .i x.1), (9, .box (103, 2) 0), (8, .box (0, 1) 0), (0, .i drift), (1, .i start), (2, .sl 1 f1 (rates.map row1) z1), (3, .sl 3 f2 (at_.map row3) z2)],
      [(.c (103, 2) 0, .i d), (.c (103, 2) 1, .own (0, 4) x.2.2.length), (.a (0, 4), .sl 3 true (x.2.2.map row3) [.i 0, .i 0, .i 0]), (.c (0, 1) 0, .i 0), (.c (0, 1) 1, .sl 0 true [] [])], x.2.1⟩)
    (fun x => x.1 ≤ 3000 ∧ x.2.2.length ≤ 12 * x.1 ∧ x.2.2 = (List.range x.1).foldl (fun R t => (at_.take 12).foldl (stepM drift start rates t) R) []) (fun x => 3000 - x.1) (0, 50, []) ?_ ?_ ?_
  · simp
  · refine Le.of ?_ ?_ (by simp) <;> (simp only [go_sem, seval]; try simp)
  · rintro ⟨t, c, R⟩ ⟨ht, hl, hR⟩
    simp only at ht hl hR
    repeat' (first
    | ((first | with_reducible apply awp_sr5 | with_reducible apply awp_r5 | with_reducible apply awp_sd | with_reducible apply awp_d | with_reducible apply inlR_n5 | with_reducible apply inlR_r5); (· (first | exact Ctx.fn_ok hS | exact Ctx.rd_ok hS | assumption | exact True.intro)); iterate 2 (· (simp only [go_sem, seval] <;> eq_refl)))
    | (first | with_reducible apply awp_scp | with_reducible apply awp_sn | with_reducible apply awp_nop | with_reducible apply awp_ret | with_reducible apply awp_exit | with_reducible apply awp_block | with_reducible apply awp_seq | with_reducible apply seqK_n | with_reducible apply seqK_r | with_reducible apply seqK_x | with_reducible apply blkK_n | with_reducible apply blkK_r | with_reducible apply blkK_x)
    | (with_reducible apply blkK_y; (· first | rfl | decide))
    | (first | with_reducible apply backK_x | with_reducible apply backK_r | with_reducible apply asgK_n | with_reducible apply rngK_x | with_reducible apply rngK_r | with_reducible apply True.intro | with_reducible apply And.intro True.intro True.intro)
    | (fail_if_success with_reducible apply K_id); (fail_if_success with_reducible apply awp_id); first | omega | (simp only [go_sem, seval]; done)
    | fail)
    refine awp_cp ((t : Int) < 3000) (by simp only [go_sem, seval] <;> eq_refl) (by first | simp only [Bool.decide_or, Bool.decide_and, decide_not] | simp) (fun hc => ?_) (fun hc => ?_)
    · repeat' (first
    | ((first | with_reducible apply awp_sr5 | with_reducible apply awp_r5 | with_reducible apply awp_sd | with_reducible apply awp_d | with_reducible apply inlR_n5 | with_reducible apply inlR_r5); (· (first | exact Ctx.fn_ok hS | exact Ctx.rd_ok hS | assumption | exact True.intro)); iterate 2 (· (simp only [go_sem, seval] <;> eq_refl)))
    | (first | with_reducible apply awp_scp | with_reducible apply awp_sn | with_reducible apply awp_nop | with_reducible apply awp_ret | with_reducible apply awp_exit | with_reducible apply awp_block | with_reducible apply awp_seq | with_reducible apply seqK_n | with_reducible apply seqK_r | with_reducible apply seqK_x | with_reducible apply blkK_n | with_reducible apply blkK_r | with_reducible apply blkK_x)
    | (with_reducible apply blkK_y; (· first | rfl | decide))
    | (first | with_reducible apply backK_x | with_reducible apply backK_r | with_reducible apply asgK_n | with_reducible apply rngK_x | with_reducible apply rngK_r | with_reducible apply True.intro | with_reducible apply And.intro True.intro True.intro)
    | (fail_if_success with_reducible apply K_id); (fail_if_success with_reducible apply awp_id); first | omega | (simp only [go_sem, seval]; done)
    | fail)
      refine awp_loop (fun x : Nat × Nat × List Rd3 => ⟨[(11, .i x.1), (10, .i t), (9, .box (103, 2) 0), (8, .box (0, 1) 0), (0, .i drift), (1, .i start), (2, .sl 1 f1 (rates.map row1) z1), (3, .sl 3 f2 (at_.map row3) z2)],
          [(.c (103, 2) 0, .i d), (.c (103, 2) 1, .own (0, 4) x.2.2.length), (.a (0, 4), .sl 3 true (x.2.2.map row3) [.i 0, .i 0, .i 0]), (.c (0, 1) 0, .i 0), (.c (0, 1) 1, .sl 0 true [] [])], x.2.1⟩)
        (fun x => x.1 ≤ 12 ∧ x.1 ≤ at_.length ∧ x.2.2.length ≤ 12 * t + x.1 ∧ x.2.2 = (at_.take x.1).foldl (stepM drift start rates t) R) (fun x => 12 - x.1) (0, c + 50, R) ?_ ?_ ?_
      · simp; exact hl
      · refine Le.of ?_ ?_ (by simp; try omega) <;> (simp only [go_sem, seval]; try simp)
      · rintro ⟨i, c, R'⟩ ⟨hi, hia, hl', hR'⟩
        simp only at hi hia hl' hR'
        repeat' (first
    | ((first | with_reducible apply awp_sr5 | with_reducible apply awp_r5 | with_reducible apply awp_sd | with_reducible apply awp_d | with_reducible apply inlR_n5 | with_reducible apply inlR_r5); (· (first | exact Ctx.fn_ok hS | exact Ctx.rd_ok hS | assumption | exact True.intro)); iterate 2 (· (simp only [go_sem, seval] <;> eq_refl)))
    | (first | with_reducible apply awp_scp | with_reducible apply awp_sn | with_reducible apply awp_nop | with_reducible apply awp_ret | with_reducible apply awp_exit | with_reducible apply awp_block | with_reducible apply awp_seq | with_reducible apply seqK_n | with_reducible apply seqK_r | with_reducible apply seqK_x | with_reducible apply blkK_n | with_reducible apply blkK_r | with_reducible apply blkK_x)
    | (with_reducible apply blkK_y; (· first | rfl | decide))
    | (first | with_reducible apply backK_x | with_reducible apply backK_r | with_reducible apply asgK_n | with_reducible apply rngK_x | with_reducible apply rngK_r | with_reducible apply True.intro | with_reducible apply And.intro True.intro True.intro)
    | (fail_if_success with_reducible apply K_id); (fail_if_success with_reducible apply awp_id); first | omega | (simp only [go_sem, seval]; done)
    | fail)
        refine awp_cp ((i : Int) < at_.length ∧ (i : Int) < 12) (by simp only [go_sem, seval] <;> eq_refl) (by first | simp only [Bool.decide_or, Bool.decide_and, decide_not] | simp) (fun hc2 => ?_) (fun hc2 => ?_)
        · have hi' : i < at_.length := by omega
          obtain ⟨⟨p1, p2, p3⟩, hr⟩ : ∃ r, at_[i] = r := ⟨_, rfl⟩
          have hget : at_[i]? = some (p1, p2, p3) := by rw [List.getElem?_eq_getElem hi', hr]
          have hrow : rowAt (at_.map row3) z2 i = [.i p1, .i p2, .i p3] := by
            simp [rowAt, List.getD_eq_getElem?_getD, hi', hr, row3]
          have hin := h4 (p1, p2, p3) (by rw [← hr]; exact List.getElem_mem _)
          have hsucc := foldl_take_succ (stepM drift start rates t) R at_ i _ hget
          rw [← hR'] at hsucc
          have hsl := @stepM_len drift start rates t R' (p1, p2, p3)
          have ht2 : (0 : Int) ≤ t ∧ (t : Int) ≤ 100000 := by omega
          have hp1 := @pick_bd p1 3000 (by omega)
          have hp2 := @pick_bd p2 51 (by omega)
          have hp3 := @pick_bd p3 51 (by omega)
          repeat' (first
    | ((first | with_reducible apply awp_sr5 | with_reducible apply awp_r5 | with_reducible apply awp_sd | with_reducible apply awp_d | with_reducible apply inlR_n5 | with_reducible apply inlR_r5); (· (first | exact Ctx.fn_ok hS | exact Ctx.rd_ok hS | assumption | exact True.intro)); iterate 2 (· (simp only [go_sem, seval, hrow, Am.S20, Am.sPick, Am.inI, hin.1.1, hin.1.2] <;> eq_refl)))
    | (first | with_reducible apply awp_scp | with_reducible apply awp_sn | with_reducible apply awp_nop | with_reducible apply awp_ret | with_reducible apply awp_exit | with_reducible apply awp_block | with_reducible apply awp_seq | with_reducible apply seqK_n | with_reducible apply seqK_r | with_reducible apply seqK_x | with_reducible apply blkK_n | with_reducible apply blkK_r | with_reducible apply blkK_x)
    | (with_reducible apply blkK_y; (· first | rfl | decide))
    | (first | with_reducible apply backK_x | with_reducible apply backK_r | with_reducible apply asgK_n | with_reducible apply rngK_x | with_reducible apply rngK_r | with_reducible apply True.intro | with_reducible apply And.intro True.intro True.intro)
    | (fail_if_success with_reducible apply K_id); (fail_if_success with_reducible apply awp_id); first | omega | (simp only [go_sem, seval, hrow, Am.S20, Am.sPick, Am.inI, hin.1.1, hin.1.2]; done)
    | fail)
          refine awp_cp (¬ pickS p1 3000 = t) (by simp only [go_sem, seval] <;> eq_refl) (by first | simp only [Bool.decide_or, Bool.decide_and, decide_not] | simp) (fun hc3 => ?_) (fun hc3 => ?_)
          · have hst : stepM drift start rates t R' (p1, p2, p3) = R' := by simp only [stepM]; rw [if_pos hc3]
            repeat' (first
    | ((first | with_reducible apply awp_sr5 | with_reducible apply awp_r5 | with_reducible apply awp_sd | with_reducible apply awp_d | with_reducible apply inlR_n5 | with_reducible apply inlR_r5); (· (first | exact Ctx.fn_ok hS | exact Ctx.rd_ok hS | assumption | exact True.intro)); iterate 2 (· (simp only [go_sem, seval] <;> eq_refl)))
    | (first | with_reducible apply awp_scp | with_reducible apply awp_sn | with_reducible apply awp_nop | with_reducible apply awp_ret | with_reducible apply awp_exit | with_reducible apply awp_block | with_reducible apply awp_seq | with_reducible apply seqK_n | with_reducible apply seqK_r | with_reducible apply seqK_x | with_reducible apply blkK_n | with_reducible apply blkK_r | with_reducible apply blkK_x)
    | (with_reducible apply blkK_y; (· first | rfl | decide))
    | (first | with_reducible apply backK_x | with_reducible apply backK_r | with_reducible apply asgK_n | with_reducible apply rngK_x | with_reducible apply rngK_r | with_reducible apply True.intro | with_reducible apply And.intro True.intro True.intro)
    | (fail_if_success with_reducible apply K_id); (fail_if_success with_reducible apply awp_id); first | omega | (simp only [go_sem, seval]; done)
    | fail)
            refine backK_n (i + 1, c + 50, R') ⟨by dsimp only; omega, by dsimp only; omega, by dsimp only; omega, by dsimp only; rw [hsucc, hst]⟩ (by show 12 - (i + 1) < 12 - i; omega) (Le.of ?_ ?_ ?_)
            · simp only [go_sem, seval] <;> simp
            · simp only [go_sem, seval]
            · simp
          · repeat' (first
    | ((first | with_reducible apply awp_sr5 | with_reducible apply awp_r5 | with_reducible apply awp_sd | with_reducible apply awp_d | with_reducible apply inlR_n5 | with_reducible apply inlR_r5); (· (first | exact Ctx.fn_ok hS | exact Ctx.rd_ok hS | assumption | exact True.intro)); iterate 2 (· (simp only [go_sem, seval, hrow, Am.S20, Am.sPick, Am.sShown, Am.inI, hin.2.1.1, hin.2.1.2, hin.2.2.1, hin.2.2.2, h1.1, h1.2, h2.1, h2.2, Am.dec1_row1] <;> eq_refl)))
    | (first | with_reducible apply awp_scp | with_reducible apply awp_sn | with_reducible apply awp_nop | with_reducible apply awp_ret | with_reducible apply awp_exit | with_reducible apply awp_block | with_reducible apply awp_seq | with_reducible apply seqK_n | with_reducible apply seqK_r | with_reducible apply seqK_x | with_reducible apply blkK_n | with_reducible apply blkK_r | with_reducible apply blkK_x)
    | (with_reducible apply blkK_y; (· first | rfl | decide))
    | (first | with_reducible apply backK_x | with_reducible apply backK_r | with_reducible apply asgK_n | with_reducible apply rngK_x | with_reducible apply rngK_r | with_reducible apply True.intro | with_reducible apply And.intro True.intro True.intro)
    | (fail_if_success with_reducible apply K_id); (fail_if_success with_reducible apply awp_id); first | omega | (simp only [go_sem, seval, hrow, Am.S20, Am.sPick, Am.sShown, Am.inI, hin.2.1.1, hin.2.1.2, hin.2.2.1, hin.2.2.2, h1.1, h1.2, h2.1, h2.2, Am.dec1_row1]; done)
    | fail)
            · exact ⟨⟨h3, ht2⟩, by omega⟩
            repeat' (first
    | ((first | with_reducible apply awp_sr5 | with_reducible apply awp_r5 | with_reducible apply awp_sd | with_reducible apply awp_d | with_reducible apply inlR_n5 | with_reducible apply inlR_r5); (· (first | exact Ctx.fn_ok hS | exact Ctx.rd_ok hS | assumption | exact True.intro)); iterate 2 (· (simp only [go_sem, seval, Am.rowAt_last] <;> eq_refl)))
    | (first | with_reducible apply awp_scp | with_reducible apply awp_sn | with_reducible apply awp_nop | with_reducible apply awp_ret | with_reducible apply awp_exit | with_reducible apply awp_block | with_reducible apply awp_seq | with_reducible apply seqK_n | with_reducible apply seqK_r | with_reducible apply seqK_x | with_reducible apply blkK_n | with_reducible apply blkK_r | with_reducible apply blkK_x)
    | (with_reducible apply blkK_y; (· first | rfl | decide))
    | (first | with_reducible apply backK_x | with_reducible apply backK_r | with_reducible apply asgK_n | with_reducible apply rngK_x | with_reducible apply rngK_r | with_reducible apply True.intro | with_reducible apply And.intro True.intro True.intro)
    | (fail_if_success with_reducible apply K_id); (fail_if_success with_reducible apply awp_id); first | omega | (simp only [go_sem, seval, Am.rowAt_last]; done)
    | fail)
            · refine ⟨?_, ?_, ?_⟩ <;> intro h <;> simp only [Bool.not_eq_true', decide_eq_false_iff_not] at h <;> omega
            refine awp_cp ((R'.length : Int) = 0 ∨ (lastR R').1 < shownS drift start rates t) (by simp only [go_sem, seval] <;> eq_refl) (by first | simp only [Bool.decide_or, Bool.decide_and, decide_not] | simp) (fun hc4 => ?_) (fun hc4 => ?_)
            · have hst : stepM drift start rates t R' (p1, p2, p3) = R' ++ [(shownS drift start rates t, max (t - pickS p2 51) 0, t + pickS p3 51)] := by
                simp only [stepM]
                rw [if_neg hc3, if_pos (by omega)]
              repeat' (first
    | ((first | with_reducible apply awp_sr5 | with_reducible apply awp_r5 | with_reducible apply awp_sd | with_reducible apply awp_d | with_reducible apply inlR_n5 | with_reducible apply inlR_r5); (· (first | exact Ctx.fn_ok hS | exact Ctx.rd_ok hS | assumption | exact True.intro)); iterate 2 (· (simp only [go_sem, seval] <;> eq_refl)))
    | (first | with_reducible apply awp_scp | with_reducible apply awp_sn | with_reducible apply awp_nop | with_reducible apply awp_ret | with_reducible apply awp_exit | with_reducible apply awp_block | with_reducible apply awp_seq | with_reducible apply seqK_n | with_reducible apply seqK_r | with_reducible apply seqK_x | with_reducible apply blkK_n | with_reducible apply blkK_r | with_reducible apply blkK_x)
    | (with_reducible apply blkK_y; (· first | rfl | decide))
    | (first | with_reducible apply backK_x | with_reducible apply backK_r | with_reducible apply asgK_n | with_reducible apply rngK_x | with_reducible apply rngK_r | with_reducible apply True.intro | with_reducible apply And.intro True.intro True.intro)
    | (fail_if_success with_reducible apply K_id); (fail_if_success with_reducible apply awp_id); first | omega | (simp only [go_sem, seval]; done)
    | fail)
              refine backK_n (i + 1, c + 50, R' ++ [(shownS drift start rates t, max (t - pickS p2 51) 0, t + pickS p3 51)]) ⟨by dsimp only; omega, by dsimp only; omega, by dsimp only; rw [← hst]; omega, by dsimp only; rw [hsucc, hst]⟩ (by show 12 - (i + 1) < 12 - i; omega) (Le.of ?_ ?_ ?_)
              · simp only [go_sem, seval] <;> simp
              · simp only [List.map_append, row3, go_sem, seval]
              · simp
            · have hst : stepM drift start rates t R' (p1, p2, p3) = R' := by
                simp only [stepM]
                rw [if_neg hc3, if_neg (by omega)]
              repeat' (first
    | ((first | with_reducible apply awp_sr5 | with_reducible apply awp_r5 | with_reducible apply awp_sd | with_reducible apply awp_d | with_reducible apply inlR_n5 | with_reducible apply inlR_r5); (· (first | exact Ctx.fn_ok hS | exact Ctx.rd_ok hS | assumption | exact True.intro)); iterate 2 (· (simp only [go_sem, seval] <;> eq_refl)))
    | (first | with_reducible apply awp_scp | with_reducible apply awp_sn | with_reducible apply awp_nop | with_reducible apply awp_ret | with_reducible apply awp_exit | with_reducible apply awp_block | with_reducible apply awp_seq | with_reducible apply seqK_n | with_reducible apply seqK_r | with_reducible apply seqK_x | with_reducible apply blkK_n | with_reducible apply blkK_r | with_reducible apply blkK_x)
    | (with_reducible apply blkK_y; (· first | rfl | decide))
    | (first | with_reducible apply backK_x | with_reducible apply backK_r | with_reducible apply asgK_n | with_reducible apply rngK_x | with_reducible apply rngK_r | with_reducible apply True.intro | with_reducible apply And.intro True.intro True.intro)
    | (fail_if_success with_reducible apply K_id); (fail_if_success with_reducible apply awp_id); first | omega | (simp only [go_sem, seval]; done)
    | fail)
              refine backK_n (i + 1, c + 50, R') ⟨by dsimp only; omega, by dsimp only; omega, by dsimp only; omega, by dsimp only; rw [hsucc, hst]⟩ (by show 12 - (i + 1) < 12 - i; omega) (Le.of ?_ ?_ ?_)
              · simp only [go_sem, seval] <;> simp
              · simp only [go_sem, seval]
              · simp
        · have hR2 : R' = (at_.take 12).foldl (stepM drift start rates t) R := by
            rw [hR']
            congr 1
            rcases Nat.lt_or_ge i 12 with h | h
            · have h : at_.length ≤ i := by omega
              rw [List.take_of_length_le h, List.take_of_length_le (by omega)]
            · have : i = 12 := by omega
              rw [this]
          repeat' (first
    | ((first | with_reducible apply awp_sr5 | with_reducible apply awp_r5 | with_reducible apply awp_sd | with_reducible apply awp_d | with_reducible apply inlR_n5 | with_reducible apply inlR_r5); (· (first | exact Ctx.fn_ok hS | exact Ctx.rd_ok hS | assumption | exact True.intro)); iterate 2 (· (simp only [go_sem, seval] <;> eq_refl)))
    | (first | with_reducible apply awp_scp | with_reducible apply awp_sn | with_reducible apply awp_nop | with_reducible apply awp_ret | with_reducible apply awp_exit | with_reducible apply awp_block | with_reducible apply awp_seq | with_reducible apply seqK_n | with_reducible apply seqK_r | with_reducible apply seqK_x | with_reducible apply blkK_n | with_reducible apply blkK_r | with_reducible apply blkK_x)
    | (with_reducible apply blkK_y; (· first | rfl | decide))
    | (first | with_reducible apply backK_x | with_reducible apply backK_r | with_reducible apply asgK_n | with_reducible apply rngK_x | with_reducible apply rngK_r | with_reducible apply True.intro | with_reducible apply And.intro True.intro True.intro)
    | (fail_if_success with_reducible apply K_id); (fail_if_success with_reducible apply awp_id); first | omega | (simp only [go_sem, seval]; done)
    | fail)
          refine backK_n (t + 1, c + 50, R') ⟨by dsimp only; omega, by dsimp only; omega, ?_⟩ (by show 3000 - (t + 1) < 3000 - t; omega) (Le.of ?_ ?_ ?_)
          · dsimp only
            rw [fold_range_succ, ← hR, hR2]
          · simp only [go_sem, seval] <;> simp
          · simp only [go_sem, seval]
          · simp
    · have ht3 : t = 3000 := by omega
      have hRm : R = made05 drift start rates at_ := by rw [hR, ht3]; rfl
      repeat' (first
    | ((first | with_reducible apply awp_sr5 | with_reducible apply awp_r5 | with_reducible apply awp_sd | with_reducible apply awp_d | with_reducible apply inlR_n5 | with_reducible apply inlR_r5); (· (first | exact Ctx.fn_ok hS | exact Ctx.rd_ok hS | assumption | exact True.intro)); iterate 2 (· (simp only [go_sem, seval] <;> eq_refl)))
    | (first | with_reducible apply awp_scp | with_reducible apply awp_sn | with_reducible apply awp_nop | with_reducible apply awp_ret | with_reducible apply awp_exit | with_reducible apply awp_block | with_reducible apply awp_seq | with_reducible apply seqK_n | with_reducible apply seqK_r | with_reducible apply seqK_x | with_reducible apply blkK_n | with_reducible apply blkK_r | with_reducible apply blkK_x)
    | (with_reducible apply blkK_y; (· first | rfl | decide))
    | (first | with_reducible apply backK_x | with_reducible apply backK_r | with_reducible apply asgK_n | with_reducible apply rngK_x | with_reducible apply rngK_r | with_reducible apply True.intro | with_reducible apply And.intro True.intro True.intro)
    | (fail_if_success with_reducible apply K_id); (fail_if_success with_reducible apply awp_id); first | omega | (simp only [go_sem, seval]; done)
    | fail)
      first | refine endK_r (by simp only [go_sem, seval] <;> eq_refl) (by simp only [go_sem, seval]) (by simp only [go_sem, seval]) ?_ rfl | refine endK_n (by simp only [go_sem, seval] <;> eq_refl) (by simp only [go_sem, seval]) (by simp only [go_sem, seval]) ?_ rfl
      simp only [hRm, hd, go_sem, seval]
end Go.Proofs.Ytmmfbjmjhjmccaa.Am
