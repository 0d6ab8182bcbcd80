import Derived.Test.YtmmfbjmjhjmccaaP3
import Derived.Test.YtmmfbjmjhjmccaaA6
namespace Go.Proofs.Ytmmfbjmjhjmccaa.Am
open Go
attribute [local irreducible] awp seqK blkK backK endK inlK restK rngK asgK itK
set_option maxRecDepth 100000
set_option maxHeartbeats 8000000
set_option linter.unusedSimpArgs false
set_option linter.unusedVariables false
def dec3 : List AV → Rd3
  | [.v (.int _ a), .v (.int _ b), .v (.int _ c)] => (a, b, c)
  | _ => (0, 0, 0)
theorem dec3_row3 (R : List Rd3) : (R.map row3).map dec3 = R := by
  induction R with
  | nil => rfl
  | cons r R ih => rw [List.map_cons, List.map_cons, ih]; rfl

def sIsIn : Spec
  | [.v (.int .i64 t), .v (.int .i64 a), .v (.int .i64 b)] => some (True, .b (decide (a ≤ t) && decide (t ≤ b)))
  | _ => none
theorem isIn_fok : FOK Try.prog 37 sIsIn := ⟨of37, by
  intro args vc r h hv
  unfold sIsIn at h
  split at h
  · cases h; exact isIn_ok _ _ _
  · simp at h⟩

def sSpread : Spec
  | [.v (.int .i64 d), .v (.int .i64 t)] => some (True, .tup [.i (spreadS d t).1, .i (spreadS d t).2])
  | _ => none
theorem spread_fok : FOK Try.prog 55 sSpread := ⟨of55, by
  intro args vc r h hv
  unfold sSpread at h
  split at h
  · cases h; exact spread_ok _ _
  · simp at h⟩

def sClockValid : Spec
  | [.agg [.v (.int .i64 d), .sl z _ rows _]] => some ((z = 3 ∨ rows = []) ∧ rows = (rows.map dec3).map row3, .b (validC d (rows.map dec3)))
  | _ => none
theorem clockValid_fok : FOK Try.prog 38 sClockValid := ⟨of38, by
  intro args vc r h hv
  unfold sClockValid at h
  split at h
  · rename_i d z f rows zs
    cases h
    obtain ⟨h1, h2⟩ := hv
    refine PCall.arg ?_ (clockValid_ok d (rows.map dec3) f zs)
    simp only [wkL, wk, and_true, true_and]
    exact ⟨h2, h1, fun h => h⟩
  · simp at h⟩

/-- One step of around. -/
def stepA (d l : Int) (w : Int × Int) (r : Rd3) : Int × Int :=
  let s := spreadS d (max (l - r.1) (r.1 - l))
  if l < r.1 then (max w.1 (r.2.1 + -s.2), min w.2 (r.2.2 + -s.1))
  else if l = r.1 then (max w.1 (r.2.1 + -s.2), min w.2 (r.2.2 + s.2))
  else (max w.1 (r.2.1 + s.1), min w.2 (r.2.2 + s.2))
def aroundS (d l : Int) (R : List Rd3) : Int × Int := R.foldl (stepA d l) (0, 10000000)

theorem spread_bd {d t : Int} : 0 ≤ (spreadS d t).1 ∧ (spreadS d t).1 ≤ 20000000 ∧ 0 ≤ (spreadS d t).2 ∧ (spreadS d t).2 ≤ 20000000 := by
  unfold spreadS
  split
  · simp
  · rename_i h
    have h' : 0 ≤ d ∧ d ≤ 100 ∧ 0 ≤ t ∧ t ≤ 10000000 := by omega
    have q2 : (1000 * (t + 1) - 1).tdiv (1000 - d) ≤ 20000000 := by
      rw [Int.tdiv_eq_ediv_of_nonneg (by omega)]
      exact Int.ediv_le_of_le_mul (by omega) (by
        have : 20000000 * (1000 - d) ≥ 20000000 * 900 := by omega
        omega)
    have q3 := (tdiv_bd (a := 1000 * (t + 1) - 1) (b := 1000 - d) (by omega) (by omega)).1
    suffices e1 : 0 ≤ (if 0 < t then (1000 * (t - 1)).tdiv (1000 + d) + 1 else 0) ∧ (if 0 < t then (1000 * (t - 1)).tdiv (1000 + d) + 1 else 0) ≤ 20000000 by
      exact ⟨e1.1, e1.2, q3, q2⟩
    constructor
    · split
      · have := (tdiv_bd (a := 1000 * (t - 1)) (b := 1000 + d) (by omega) (by omega)).1; omega
      · simp
    · split
      · have : (1000 * (t - 1)).tdiv (1000 + d) ≤ 10000000 := by
          rw [Int.tdiv_eq_ediv_of_nonneg (by omega)]
          exact Int.ediv_le_of_le_mul (by omega) (by omega)
        omega
      · simp

theorem chain_get : ∀ {R : List Rd3} {l : Int} (_ : chainS l R = true) (r : Rd3), r ∈ R → l < r.1 ∧ r.1 ≤ 10000000 ∧ 0 ≤ r.2.1 ∧ r.2.1 ≤ r.2.2 ∧ r.2.2 ≤ 10000000
  | [], _, _, r, hr => by simp at hr
  | (a, b, c) :: R, l, h, r, hr => by
    simp only [chainS, Bool.and_eq_true, decide_eq_true_eq] at h
    rcases List.mem_cons.1 hr with rfl | hr
    · simp; omega
    · have := chain_get h.2 r hr
      omega

def S4 : List (Nat × Spec) := [(55, sSpread), (38, sClockValid)]
theorem S4_ok : TabOK Try.prog (tabOf S4) := tab_cons spread_fok (tab_cons clockValid_fok tab_nil)

theorem around_ok (d l : Int) (R : List Rd3) (f : Bool) (z : List AV) (hv : validC d R = true) (hl : 0 ≤ l ∧ l ≤ 10000000) : PCall Try.prog 46 [.agg [.i d, .sl 3 f (R.map row3) z], .i l] (.agg [.i (aroundS d l R).1, .i (aroundS d l R).2]) := by
  refine pcall_fn S4_ok _ Try.func46 ok46 nt46 (by simp) fun hb => ?_
  have hS := S4_ok
  unfold ac46 rv46
  have hlen : (R.map row3).length = R.length := by simp
  have hle : R.length ≤ 12 := by simp only [validC, Bool.and_eq_true, decide_eq_true_eq] at hv; omega
  repeat' (first
    | ((first | with_reducible apply awp_sr5 | with_reducible apply awp_r5 | with_reducible apply awp_sd | with_reducible apply awp_d | with_reducible apply inlR_n5 | with_reducible apply inlR_r5); (· (first | exact Ctx.fn_ok hS | exact Ctx.rd_ok hS | assumption | exact True.intro)); iterate 2 (· (simp only [go_sem, seval] <;> eq_refl)))
    | (first | with_reducible apply awp_scp | with_reducible apply awp_sn | with_reducible apply awp_nop | with_reducible apply awp_ret | with_reducible apply awp_exit | with_reducible apply awp_block | with_reducible apply awp_seq | with_reducible apply seqK_n | with_reducible apply seqK_r | with_reducible apply seqK_x | with_reducible apply blkK_n | with_reducible apply blkK_r | with_reducible apply blkK_x)
    | (with_reducible apply blkK_y; (· first | rfl | decide))
    | (first | with_reducible apply backK_x | with_reducible apply backK_r | with_reducible apply asgK_n | with_reducible apply rngK_x | with_reducible apply rngK_r | with_reducible apply True.intro | with_reducible apply And.intro True.intro True.intro)
    | (fail_if_success with_reducible apply K_id); (fail_if_success with_reducible apply awp_id); first | omega | (simp only [go_sem, seval]; done)
    | fail)
  refine awp_loop (fun x : Nat × Nat × Int × Int => ⟨[(18, .i x.1), (17, .i R.length), (16, .sl 3 f (R.map row3) z), (6, .clo (.func 54) [.box (101, 2) 0] []), (5, .box (101, 2) 0), (4, .box (1, 1) 0), (2, .box (0, 1) 0), (1, .i l)],
    [(.c (101, 2) 0, .i x.2.2.1), (.c (101, 2) 1, .i x.2.2.2), (.c (1, 1) 0, .i 0), (.c (1, 1) 1, .i 0), (.c (0, 1) 0, .i d), (.c (0, 1) 1, .sl 3 f (R.map row3) z)], x.2.1⟩)
    (fun x => x.1 ≤ R.length ∧ aroundS d l R = (R.drop x.1).foldl (stepA d l) (x.2.2.1, x.2.2.2)) (fun x => R.length - x.1) (0, 4, 0, 10000000) ?_ ?_ ?_
  · exact ⟨by simp, rfl⟩
  · refine ⟨?_, ?_, ?_⟩
    · simp only [go_sem, seval, hlen] <;> simp
    · simp only [go_sem, seval]
    · simp
  · rintro ⟨k, c, u, v⟩ ⟨hk, hw⟩
    simp only at hk hw
    repeat' (first
    | ((first | with_reducible apply awp_sr5 | with_reducible apply awp_r5 | with_reducible apply awp_sd | with_reducible apply awp_d | with_reducible apply inlR_n5 | with_reducible apply inlR_r5); (· (first | exact Ctx.fn_ok hS | exact Ctx.rd_ok hS | assumption | exact True.intro)); iterate 2 (· (simp only [go_sem, seval] <;> eq_refl)))
    | (first | with_reducible apply awp_scp | with_reducible apply awp_sn | with_reducible apply awp_nop | with_reducible apply awp_ret | with_reducible apply awp_exit | with_reducible apply awp_block | with_reducible apply awp_seq | with_reducible apply seqK_n | with_reducible apply seqK_r | with_reducible apply seqK_x | with_reducible apply blkK_n | with_reducible apply blkK_r | with_reducible apply blkK_x)
    | (with_reducible apply blkK_y; (· first | rfl | decide))
    | (first | with_reducible apply backK_x | with_reducible apply backK_r | with_reducible apply asgK_n | with_reducible apply rngK_x | with_reducible apply rngK_r | with_reducible apply True.intro | with_reducible apply And.intro True.intro True.intro)
    | (fail_if_success with_reducible apply K_id); (fail_if_success with_reducible apply awp_id); first | omega | (simp only [go_sem, seval]; done)
    | fail)
    refine awp_cd (by simp only [go_sem, seval] <;> eq_refl) (fun h1 => ?_) (fun h1 => ?_)
    · have hk' : k < R.length := by omega
      obtain ⟨⟨a, b, g⟩, hr⟩ : ∃ r, R[k] = r := ⟨_, rfl⟩
      have hrow : rowAt (R.map row3) z k = [.i a, .i b, .i g] := by
        simp [rowAt, List.getD_eq_getElem?_getD, hk', hr, row3]
      have hdrop : R.drop k = (a, b, g) :: R.drop (k + 1) := by rw [List.drop_eq_getElem_cons hk', hr]
      have hch : chainS (-1) R = true := by simp only [validC, Bool.and_eq_true] at hv; exact hv.2
      have hbd := chain_get hch (a, b, g) (by rw [← hr]; exact List.getElem_mem _)
      have hsp := @spread_bd d (max (l - a) (a - l))
      simp only at hbd
      repeat' (first
    | ((first | with_reducible apply awp_sr5 | with_reducible apply awp_r5 | with_reducible apply awp_sd | with_reducible apply awp_d | with_reducible apply inlR_n5 | with_reducible apply inlR_r5); (· (first | exact Ctx.fn_ok hS | exact Ctx.rd_ok hS | assumption | exact True.intro)); iterate 2 (· (simp only [go_sem, seval, hrow, Am.S4, Am.sSpread, Am.sClockValid] <;> eq_refl)))
    | (first | with_reducible apply awp_scp | with_reducible apply awp_sn | with_reducible apply awp_nop | with_reducible apply awp_ret | with_reducible apply awp_exit | with_reducible apply awp_block | with_reducible apply awp_seq | with_reducible apply seqK_n | with_reducible apply seqK_r | with_reducible apply seqK_x | with_reducible apply blkK_n | with_reducible apply blkK_r | with_reducible apply blkK_x)
    | (with_reducible apply blkK_y; (· first | rfl | decide))
    | (first | with_reducible apply backK_x | with_reducible apply backK_r | with_reducible apply asgK_n | with_reducible apply rngK_x | with_reducible apply rngK_r | with_reducible apply True.intro | with_reducible apply And.intro True.intro True.intro)
    | (fail_if_success with_reducible apply K_id); (fail_if_success with_reducible apply awp_id); first | omega | (simp only [go_sem, seval, hrow, Am.S4, Am.sSpread, Am.sClockValid]; done)
    | fail)
      refine awp_cd (by simp only [go_sem, seval] <;> eq_refl) (fun h2 => ?_) (fun h2 => ?_)
      · repeat' (first
    | ((first | with_reducible apply awp_sr5 | with_reducible apply awp_r5 | with_reducible apply awp_sd | with_reducible apply awp_d | with_reducible apply inlR_n5 | with_reducible apply inlR_r5); (· (first | exact Ctx.fn_ok hS | exact Ctx.rd_ok hS | assumption | exact True.intro)); iterate 2 (· (simp only [go_sem, seval] <;> eq_refl)))
    | (first | with_reducible apply awp_scp | with_reducible apply awp_sn | with_reducible apply awp_nop | with_reducible apply awp_ret | with_reducible apply awp_exit | with_reducible apply awp_block | with_reducible apply awp_seq | with_reducible apply seqK_n | with_reducible apply seqK_r | with_reducible apply seqK_x | with_reducible apply blkK_n | with_reducible apply blkK_r | with_reducible apply blkK_x)
    | (with_reducible apply blkK_y; (· first | rfl | decide))
    | (first | with_reducible apply backK_x | with_reducible apply backK_r | with_reducible apply asgK_n | with_reducible apply rngK_x | with_reducible apply rngK_r | with_reducible apply True.intro | with_reducible apply And.intro True.intro True.intro)
    | (fail_if_success with_reducible apply K_id); (fail_if_success with_reducible apply awp_id); first | omega | (simp only [go_sem, seval]; done)
    | fail)
        have hs : stepA d l (u, v) (a, b, g) = (max u (b + -(spreadS d (max (l - a) (a - l))).2), min v (g + -(spreadS d (max (l - a) (a - l))).1)) := by simp only [stepA, if_pos h2]
        refine awp_inlF hS 9 Try.func54 ok54 nt54 of54 rfl (by simp only [go_sem, seval] <;> eq_refl) (by simp only [go_sem, seval] <;> eq_refl) ?_ rfl (by simp only [go_sem, seval] <;> eq_refl) (by simp) fun hb => ?_
        · omega
        · unfold ac54 rv54
          repeat' (first
    | ((first | with_reducible apply awp_sr5 | with_reducible apply awp_r5 | with_reducible apply awp_sd | with_reducible apply awp_d | with_reducible apply inlR_n5 | with_reducible apply inlR_r5); (· (first | exact Ctx.fn_ok hS | exact Ctx.rd_ok hS | assumption | exact True.intro)); iterate 2 (· (simp only [go_sem, seval] <;> eq_refl)))
    | (first | with_reducible apply awp_scp | with_reducible apply awp_sn | with_reducible apply awp_nop | with_reducible apply awp_ret | with_reducible apply awp_exit | with_reducible apply awp_block | with_reducible apply awp_seq | with_reducible apply seqK_n | with_reducible apply seqK_r | with_reducible apply seqK_x | with_reducible apply blkK_n | with_reducible apply blkK_r | with_reducible apply blkK_x)
    | (with_reducible apply blkK_y; (· first | rfl | decide))
    | (first | with_reducible apply backK_x | with_reducible apply backK_r | with_reducible apply asgK_n | with_reducible apply rngK_x | with_reducible apply rngK_r | with_reducible apply True.intro | with_reducible apply And.intro True.intro True.intro)
    | (fail_if_success with_reducible apply K_id); (fail_if_success with_reducible apply awp_id); first | omega | (simp only [go_sem, seval]; done)
    | fail)
          refine backK_n (k + 1, c + 50, (stepA d l (u, v) (a, b, g)).1, (stepA d l (u, v) (a, b, g)).2) ⟨by omega, ?_⟩ (by show R.length - (k + 1) < R.length - k; omega) ⟨?_, ?_, ?_⟩
          · rw [hw, hdrop]; rfl
          · simp only [go_sem, seval] <;> simp
          · simp only [go_sem, seval, hs]
          · simp
      · repeat' (first
    | ((first | with_reducible apply awp_sr5 | with_reducible apply awp_r5 | with_reducible apply awp_sd | with_reducible apply awp_d | with_reducible apply inlR_n5 | with_reducible apply inlR_r5); (· (first | exact Ctx.fn_ok hS | exact Ctx.rd_ok hS | assumption | exact True.intro)); iterate 2 (· (simp only [go_sem, seval] <;> eq_refl)))
    | (first | with_reducible apply awp_scp | with_reducible apply awp_sn | with_reducible apply awp_nop | with_reducible apply awp_ret | with_reducible apply awp_exit | with_reducible apply awp_block | with_reducible apply awp_seq | with_reducible apply seqK_n | with_reducible apply seqK_r | with_reducible apply seqK_x | with_reducible apply blkK_n | with_reducible apply blkK_r | with_reducible apply blkK_x)
    | (with_reducible apply blkK_y; (· first | rfl | decide))
    | (first | with_reducible apply backK_x | with_reducible apply backK_r | with_reducible apply asgK_n | with_reducible apply rngK_x | with_reducible apply rngK_r | with_reducible apply True.intro | with_reducible apply And.intro True.intro True.intro)
    | (fail_if_success with_reducible apply K_id); (fail_if_success with_reducible apply awp_id); first | omega | (simp only [go_sem, seval]; done)
    | fail)
        refine awp_cd (by simp only [go_sem, seval] <;> eq_refl) (fun h3 => ?_) (fun h3 => ?_)
        · repeat' (first
    | ((first | with_reducible apply awp_sr5 | with_reducible apply awp_r5 | with_reducible apply awp_sd | with_reducible apply awp_d | with_reducible apply inlR_n5 | with_reducible apply inlR_r5); (· (first | exact Ctx.fn_ok hS | exact Ctx.rd_ok hS | assumption | exact True.intro)); iterate 2 (· (simp only [go_sem, seval] <;> eq_refl)))
    | (first | with_reducible apply awp_scp | with_reducible apply awp_sn | with_reducible apply awp_nop | with_reducible apply awp_ret | with_reducible apply awp_exit | with_reducible apply awp_block | with_reducible apply awp_seq | with_reducible apply seqK_n | with_reducible apply seqK_r | with_reducible apply seqK_x | with_reducible apply blkK_n | with_reducible apply blkK_r | with_reducible apply blkK_x)
    | (with_reducible apply blkK_y; (· first | rfl | decide))
    | (first | with_reducible apply backK_x | with_reducible apply backK_r | with_reducible apply asgK_n | with_reducible apply rngK_x | with_reducible apply rngK_r | with_reducible apply True.intro | with_reducible apply And.intro True.intro True.intro)
    | (fail_if_success with_reducible apply K_id); (fail_if_success with_reducible apply awp_id); first | omega | (simp only [go_sem, seval]; done)
    | fail)
          have hs : stepA d l (u, v) (a, b, g) = (max u (b + -(spreadS d (max (l - a) (a - l))).2), min v (g + (spreadS d (max (l - a) (a - l))).2)) := by simp only [stepA, if_neg h2, if_pos h3]
          refine awp_inlF hS 9 Try.func54 ok54 nt54 of54 rfl (by simp only [go_sem, seval] <;> eq_refl) (by simp only [go_sem, seval] <;> eq_refl) ?_ rfl (by simp only [go_sem, seval] <;> eq_refl) (by simp) fun hb => ?_
          · omega
          · unfold ac54 rv54
            repeat' (first
    | ((first | with_reducible apply awp_sr5 | with_reducible apply awp_r5 | with_reducible apply awp_sd | with_reducible apply awp_d | with_reducible apply inlR_n5 | with_reducible apply inlR_r5); (· (first | exact Ctx.fn_ok hS | exact Ctx.rd_ok hS | assumption | exact True.intro)); iterate 2 (· (simp only [go_sem, seval] <;> eq_refl)))
    | (first | with_reducible apply awp_scp | with_reducible apply awp_sn | with_reducible apply awp_nop | with_reducible apply awp_ret | with_reducible apply awp_exit | with_reducible apply awp_block | with_reducible apply awp_seq | with_reducible apply seqK_n | with_reducible apply seqK_r | with_reducible apply seqK_x | with_reducible apply blkK_n | with_reducible apply blkK_r | with_reducible apply blkK_x)
    | (with_reducible apply blkK_y; (· first | rfl | decide))
    | (first | with_reducible apply backK_x | with_reducible apply backK_r | with_reducible apply asgK_n | with_reducible apply rngK_x | with_reducible apply rngK_r | with_reducible apply True.intro | with_reducible apply And.intro True.intro True.intro)
    | (fail_if_success with_reducible apply K_id); (fail_if_success with_reducible apply awp_id); first | omega | (simp only [go_sem, seval]; done)
    | fail)
            refine backK_n (k + 1, c + 50, (stepA d l (u, v) (a, b, g)).1, (stepA d l (u, v) (a, b, g)).2) ⟨by omega, ?_⟩ (by show R.length - (k + 1) < R.length - k; omega) ⟨?_, ?_, ?_⟩
            · rw [hw, hdrop]; rfl
            · simp only [go_sem, seval] <;> simp
            · simp only [go_sem, seval, hs]
            · simp
        · repeat' (first
    | ((first | with_reducible apply awp_sr5 | with_reducible apply awp_r5 | with_reducible apply awp_sd | with_reducible apply awp_d | with_reducible apply inlR_n5 | with_reducible apply inlR_r5); (· (first | exact Ctx.fn_ok hS | exact Ctx.rd_ok hS | assumption | exact True.intro)); iterate 2 (· (simp only [go_sem, seval] <;> eq_refl)))
    | (first | with_reducible apply awp_scp | with_reducible apply awp_sn | with_reducible apply awp_nop | with_reducible apply awp_ret | with_reducible apply awp_exit | with_reducible apply awp_block | with_reducible apply awp_seq | with_reducible apply seqK_n | with_reducible apply seqK_r | with_reducible apply seqK_x | with_reducible apply blkK_n | with_reducible apply blkK_r | with_reducible apply blkK_x)
    | (with_reducible apply blkK_y; (· first | rfl | decide))
    | (first | with_reducible apply backK_x | with_reducible apply backK_r | with_reducible apply asgK_n | with_reducible apply rngK_x | with_reducible apply rngK_r | with_reducible apply True.intro | with_reducible apply And.intro True.intro True.intro)
    | (fail_if_success with_reducible apply K_id); (fail_if_success with_reducible apply awp_id); first | omega | (simp only [go_sem, seval]; done)
    | fail)
          have hs : stepA d l (u, v) (a, b, g) = (max u (b + (spreadS d (max (l - a) (a - l))).1), min v (g + (spreadS d (max (l - a) (a - l))).2)) := by simp only [stepA, if_neg h2, if_neg h3]
          refine awp_inlF hS 9 Try.func54 ok54 nt54 of54 rfl (by simp only [go_sem, seval] <;> eq_refl) (by simp only [go_sem, seval] <;> eq_refl) ?_ rfl (by simp only [go_sem, seval] <;> eq_refl) (by simp) fun hb => ?_
          · omega
          · unfold ac54 rv54
            repeat' (first
    | ((first | with_reducible apply awp_sr5 | with_reducible apply awp_r5 | with_reducible apply awp_sd | with_reducible apply awp_d | with_reducible apply inlR_n5 | with_reducible apply inlR_r5); (· (first | exact Ctx.fn_ok hS | exact Ctx.rd_ok hS | assumption | exact True.intro)); iterate 2 (· (simp only [go_sem, seval] <;> eq_refl)))
    | (first | with_reducible apply awp_scp | with_reducible apply awp_sn | with_reducible apply awp_nop | with_reducible apply awp_ret | with_reducible apply awp_exit | with_reducible apply awp_block | with_reducible apply awp_seq | with_reducible apply seqK_n | with_reducible apply seqK_r | with_reducible apply seqK_x | with_reducible apply blkK_n | with_reducible apply blkK_r | with_reducible apply blkK_x)
    | (with_reducible apply blkK_y; (· first | rfl | decide))
    | (first | with_reducible apply backK_x | with_reducible apply backK_r | with_reducible apply asgK_n | with_reducible apply rngK_x | with_reducible apply rngK_r | with_reducible apply True.intro | with_reducible apply And.intro True.intro True.intro)
    | (fail_if_success with_reducible apply K_id); (fail_if_success with_reducible apply awp_id); first | omega | (simp only [go_sem, seval]; done)
    | fail)
            refine backK_n (k + 1, c + 50, (stepA d l (u, v) (a, b, g)).1, (stepA d l (u, v) (a, b, g)).2) ⟨by omega, ?_⟩ (by show R.length - (k + 1) < R.length - k; omega) ⟨?_, ?_, ?_⟩
            · rw [hw, hdrop]; rfl
            · simp only [go_sem, seval] <;> simp
            · simp only [go_sem, seval, hs]
            · simp
    · repeat' (first
    | ((first | with_reducible apply awp_sr5 | with_reducible apply awp_r5 | with_reducible apply awp_sd | with_reducible apply awp_d | with_reducible apply inlR_n5 | with_reducible apply inlR_r5); (· (first | exact Ctx.fn_ok hS | exact Ctx.rd_ok hS | assumption | exact True.intro)); iterate 2 (· (simp only [go_sem, seval] <;> eq_refl)))
    | (first | with_reducible apply awp_scp | with_reducible apply awp_sn | with_reducible apply awp_nop | with_reducible apply awp_ret | with_reducible apply awp_exit | with_reducible apply awp_block | with_reducible apply awp_seq | with_reducible apply seqK_n | with_reducible apply seqK_r | with_reducible apply seqK_x | with_reducible apply blkK_n | with_reducible apply blkK_r | with_reducible apply blkK_x)
    | (with_reducible apply blkK_y; (· first | rfl | decide))
    | (first | with_reducible apply backK_x | with_reducible apply backK_r | with_reducible apply asgK_n | with_reducible apply rngK_x | with_reducible apply rngK_r | with_reducible apply True.intro | with_reducible apply And.intro True.intro True.intro)
    | (fail_if_success with_reducible apply K_id); (fail_if_success with_reducible apply awp_id); first | omega | (simp only [go_sem, seval]; done)
    | fail)
      have hk' : k = R.length := by omega
      have : aroundS d l R = (u, v) := by rw [hw, hk']; simp
      first | refine endK_r (by simp only [go_sem, seval] <;> eq_refl) (by simp only [go_sem, seval]) (by simp only [go_sem, seval]) ?_ rfl | refine endK_n (by simp only [go_sem, seval] <;> eq_refl) (by simp only [go_sem, seval]) (by simp only [go_sem, seval]) ?_ rfl
      simp only [this, go_sem, seval]

def sAround : Spec
  | [.agg [.v (.int .i64 d), .sl z _ rows _], .v (.int .i64 l)] => some ((z = 3 ∨ rows = []) ∧ rows = (rows.map dec3).map row3 ∧ validC d (rows.map dec3) = true ∧ 0 ≤ l ∧ l ≤ 10000000, .agg [.i (aroundS d l (rows.map dec3)).1, .i (aroundS d l (rows.map dec3)).2])
  | _ => none
theorem around_fok : FOK Try.prog 46 sAround := ⟨of46, by
  intro args vc r h hv
  unfold sAround at h
  split at h
  · rename_i d z f rows zs l
    cases h
    obtain ⟨h1, h2, h3, h4⟩ := hv
    refine PCall.arg ?_ (around_ok d l (rows.map dec3) f zs h3 h4)
    simp only [wkL, wk, and_true, true_and]
    exact ⟨h2, h1, fun h => h⟩
  · simp at h⟩

def atS (d : Int) (R : List Rd3) (l : Int) : Int × Int × Int :=
  if validC d R = false ∨ l < 0 ∨ 10000000 < l then (0, 0, 50)
  else if (aroundS d l R).2 < (aroundS d l R).1 then (0, 0, 50) else ((aroundS d l R).1, (aroundS d l R).2, 0)
def S5 : List (Nat × Spec) := [(38, sClockValid), (46, sAround)]
theorem S5_ok : TabOK Try.prog (tabOf S5) := tab_cons clockValid_fok (tab_cons around_fok tab_nil)

theorem at_ok (d l : Int) (R : List Rd3) (f : Bool) (z : List AV) : PCall Try.prog 29 [.agg [.i d, .sl 3 f (R.map row3) z], .i l] (.tup [.i (atS d R l).1, .i (atS d R l).2.1, .i (atS d R l).2.2]) := by
  refine pcall_fn S5_ok _ Try.func29 ok29 nt29 (by simp) fun hb => ?_
  have hS := S5_ok
  unfold ac29 rv29
  repeat' (first
    | ((first | with_reducible apply awp_sr5 | with_reducible apply awp_r5 | with_reducible apply awp_sd | with_reducible apply awp_d | with_reducible apply inlR_n5 | with_reducible apply inlR_r5); (· (first | exact Ctx.fn_ok hS | exact Ctx.rd_ok hS | assumption | exact True.intro)); iterate 2 (· (simp only [go_sem, seval, Am.S5, Am.sClockValid, Am.sAround, Am.dec3_row3] <;> eq_refl)))
    | (first | with_reducible apply awp_scp | with_reducible apply awp_sn | with_reducible apply awp_nop | with_reducible apply awp_ret | with_reducible apply awp_exit | with_reducible apply awp_block | with_reducible apply awp_seq | with_reducible apply seqK_n | with_reducible apply seqK_r | with_reducible apply seqK_x | with_reducible apply blkK_n | with_reducible apply blkK_r | with_reducible apply blkK_x)
    | (with_reducible apply blkK_y; (· first | rfl | decide))
    | (first | with_reducible apply backK_x | with_reducible apply backK_r | with_reducible apply asgK_n | with_reducible apply rngK_x | with_reducible apply rngK_r | with_reducible apply True.intro | with_reducible apply And.intro True.intro True.intro)
    | (fail_if_success with_reducible apply K_id); (fail_if_success with_reducible apply awp_id); first | omega | (simp only [go_sem, seval, Am.S5, Am.sClockValid, Am.sAround, Am.dec3_row3]; done)
    | fail)
  refine awp_c (by simp only [go_sem, seval] <;> eq_refl) (fun h => ?_) (fun h => ?_)
  · repeat' (first
    | ((first | with_reducible apply awp_sr5 | with_reducible apply awp_r5 | with_reducible apply awp_sd | with_reducible apply awp_d | with_reducible apply inlR_n5 | with_reducible apply inlR_r5); (· (first | exact Ctx.fn_ok hS | exact Ctx.rd_ok hS | assumption | exact True.intro)); iterate 2 (· (simp only [go_sem, seval] <;> eq_refl)))
    | (first | with_reducible apply awp_scp | with_reducible apply awp_sn | with_reducible apply awp_nop | with_reducible apply awp_ret | with_reducible apply awp_exit | with_reducible apply awp_block | with_reducible apply awp_seq | with_reducible apply seqK_n | with_reducible apply seqK_r | with_reducible apply seqK_x | with_reducible apply blkK_n | with_reducible apply blkK_r | with_reducible apply blkK_x)
    | (with_reducible apply blkK_y; (· first | rfl | decide))
    | (first | with_reducible apply backK_x | with_reducible apply backK_r | with_reducible apply asgK_n | with_reducible apply rngK_x | with_reducible apply rngK_r | with_reducible apply True.intro | with_reducible apply And.intro True.intro True.intro)
    | (fail_if_success with_reducible apply K_id); (fail_if_success with_reducible apply awp_id); first | omega | (simp only [go_sem, seval]; done)
    | fail)
    first | refine endK_r (by simp only [go_sem, seval] <;> eq_refl) (by simp only [go_sem, seval]) (by simp only [go_sem, seval]) ?_ rfl | refine endK_n (by simp only [go_sem, seval] <;> eq_refl) (by simp only [go_sem, seval]) (by simp only [go_sem, seval]) ?_ rfl
    have : validC d R = false ∨ l < 0 ∨ 10000000 < l := by
      cases hvv : validC d R
      · simp
      · simp [hvv] at h; omega
    simp only [atS, if_pos this, go_sem, seval]
  · have h0 : ¬ (validC d R = false ∨ l < 0 ∨ 10000000 < l) := by
      cases hvv : validC d R
      · simp [hvv] at h
      · simp [hvv] at h ⊢; omega
    have h1 : validC d R = true ∧ 0 ≤ l ∧ l ≤ 10000000 := by
      cases hvv : validC d R
      · simp [hvv] at h0
      · simp [hvv] at h0 ⊢; omega
    repeat' (first
    | ((first | with_reducible apply awp_sr5 | with_reducible apply awp_r5 | with_reducible apply awp_sd | with_reducible apply awp_d | with_reducible apply inlR_n5 | with_reducible apply inlR_r5); (· (first | exact Ctx.fn_ok hS | exact Ctx.rd_ok hS | assumption | exact True.intro)); iterate 2 (· (simp only [go_sem, seval, Am.S5, Am.sClockValid, Am.sAround, Am.dec3_row3, h1.1] <;> eq_refl)))
    | (first | with_reducible apply awp_scp | with_reducible apply awp_sn | with_reducible apply awp_nop | with_reducible apply awp_ret | with_reducible apply awp_exit | with_reducible apply awp_block | with_reducible apply awp_seq | with_reducible apply seqK_n | with_reducible apply seqK_r | with_reducible apply seqK_x | with_reducible apply blkK_n | with_reducible apply blkK_r | with_reducible apply blkK_x)
    | (with_reducible apply blkK_y; (· first | rfl | decide))
    | (first | with_reducible apply backK_x | with_reducible apply backK_r | with_reducible apply asgK_n | with_reducible apply rngK_x | with_reducible apply rngK_r | with_reducible apply True.intro | with_reducible apply And.intro True.intro True.intro)
    | (fail_if_success with_reducible apply K_id); (fail_if_success with_reducible apply awp_id); first | omega | (simp only [go_sem, seval, Am.S5, Am.sClockValid, Am.sAround, Am.dec3_row3, h1.1]; done)
    | fail)
    refine awp_cd (by simp only [go_sem, seval] <;> eq_refl) (fun h2 => ?_) (fun h2 => ?_)
    · repeat' (first
    | ((first | with_reducible apply awp_sr5 | with_reducible apply awp_r5 | with_reducible apply awp_sd | with_reducible apply awp_d | with_reducible apply inlR_n5 | with_reducible apply inlR_r5); (· (first | exact Ctx.fn_ok hS | exact Ctx.rd_ok hS | assumption | exact True.intro)); iterate 2 (· (simp only [go_sem, seval] <;> eq_refl)))
    | (first | with_reducible apply awp_scp | with_reducible apply awp_sn | with_reducible apply awp_nop | with_reducible apply awp_ret | with_reducible apply awp_exit | with_reducible apply awp_block | with_reducible apply awp_seq | with_reducible apply seqK_n | with_reducible apply seqK_r | with_reducible apply seqK_x | with_reducible apply blkK_n | with_reducible apply blkK_r | with_reducible apply blkK_x)
    | (with_reducible apply blkK_y; (· first | rfl | decide))
    | (first | with_reducible apply backK_x | with_reducible apply backK_r | with_reducible apply asgK_n | with_reducible apply rngK_x | with_reducible apply rngK_r | with_reducible apply True.intro | with_reducible apply And.intro True.intro True.intro)
    | (fail_if_success with_reducible apply K_id); (fail_if_success with_reducible apply awp_id); first | omega | (simp only [go_sem, seval]; done)
    | fail)
      first | refine endK_r (by simp only [go_sem, seval] <;> eq_refl) (by simp only [go_sem, seval]) (by simp only [go_sem, seval]) ?_ rfl | refine endK_n (by simp only [go_sem, seval] <;> eq_refl) (by simp only [go_sem, seval]) (by simp only [go_sem, seval]) ?_ rfl
      simp only [atS, if_neg h0, if_pos h2, go_sem, seval]
    · repeat' (first
    | ((first | with_reducible apply awp_sr5 | with_reducible apply awp_r5 | with_reducible apply awp_sd | with_reducible apply awp_d | with_reducible apply inlR_n5 | with_reducible apply inlR_r5); (· (first | exact Ctx.fn_ok hS | exact Ctx.rd_ok hS | assumption | exact True.intro)); iterate 2 (· (simp only [go_sem, seval] <;> eq_refl)))
    | (first | with_reducible apply awp_scp | with_reducible apply awp_sn | with_reducible apply awp_nop | with_reducible apply awp_ret | with_reducible apply awp_exit | with_reducible apply awp_block | with_reducible apply awp_seq | with_reducible apply seqK_n | with_reducible apply seqK_r | with_reducible apply seqK_x | with_reducible apply blkK_n | with_reducible apply blkK_r | with_reducible apply blkK_x)
    | (with_reducible apply blkK_y; (· first | rfl | decide))
    | (first | with_reducible apply backK_x | with_reducible apply backK_r | with_reducible apply asgK_n | with_reducible apply rngK_x | with_reducible apply rngK_r | with_reducible apply True.intro | with_reducible apply And.intro True.intro True.intro)
    | (fail_if_success with_reducible apply K_id); (fail_if_success with_reducible apply awp_id); first | omega | (simp only [go_sem, seval]; done)
    | fail)
      first | refine endK_r (by simp only [go_sem, seval] <;> eq_refl) (by simp only [go_sem, seval]) (by simp only [go_sem, seval]) ?_ rfl | refine endK_n (by simp only [go_sem, seval] <;> eq_refl) (by simp only [go_sem, seval]) (by simp only [go_sem, seval]) ?_ rfl
      simp only [atS, if_neg h0, if_neg h2, go_sem, seval]

def sAt : Spec
  | [.agg [.v (.int .i64 d), .sl z _ rows _], .v (.int .i64 l)] => some ((z = 3 ∨ rows = []) ∧ rows = (rows.map dec3).map row3, .tup [.i (atS d (rows.map dec3) l).1, .i (atS d (rows.map dec3) l).2.1, .i (atS d (rows.map dec3) l).2.2])
  | _ => none
theorem at_fok : FOK Try.prog 29 sAt := ⟨of29, by
  intro args vc r h hv
  unfold sAt at h
  split at h
  · rename_i d z f rows zs l
    cases h
    obtain ⟨h1, h2⟩ := hv
    refine PCall.arg ?_ (at_ok d l (rows.map dec3) f zs)
    simp only [wkL, wk, and_true, true_and]
    exact ⟨h2, h1, fun h => h⟩
  · simp at h⟩
end Go.Proofs.Ytmmfbjmjhjmccaa.Am
