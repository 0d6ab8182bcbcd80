import Derived.Test.YtmmfbjmjhjmccaaP10
namespace Go.Proofs.Ytmmfbjmjhjmccaa.Am
open Go
attribute [local irreducible] awp seqK blkK backK endK inlK restK rngK asgK itK
set_option maxRecDepth 100000
set_option maxHeartbeats 8000000
set_option linter.unusedSimpArgs false
set_option linter.unusedVariables false
def gP (y1 : Nat) (rows1 : List (List AV)) (y2 : Nat) (rows2 : List (List AV)) : Prop :=
  (y1 = 3 ∨ rows1 = []) ∧ rows1 = (rows1.map dec3).map row3 ∧ (y2 = 2 ∨ rows2 = []) ∧ rows2 = (rows2.map dec2).map row2 ∧ rows2.length ≤ 1000
def sBounds : Spec
  | [.agg [.v (.int .i64 d), .sl y1 _ rows1 _, .v (.int .i64 tol), .v (.int .i64 rate), .sl y2 _ rows2 _], .v (.int .i64 t)] => some (gP y1 rows1 y2 rows2, tup3 (boundsS ⟨d, rows1.map dec3, tol, rate, rows2.map dec2⟩ t))
  | _ => none
def sReason : Spec
  | [.agg [.v (.int .i64 d), .sl y1 _ rows1 _, .v (.int .i64 tol), .v (.int .i64 rate), .sl y2 _ rows2 _], .v (.int .i64 t)] => some (gP y1 rows1 y2 rows2, tup3 (reasonS ⟨d, rows1.map dec3, tol, rate, rows2.map dec2⟩ t))
  | _ => none
def sBoth : Spec
  | [.agg [.v (.int .i64 d), .sl y1 _ rows1 _, .v (.int .i64 tol), .v (.int .i64 rate), .sl y2 _ rows2 _], .agg [.v (.int .i64 d'), .sl y1' _ rows1' _, .v (.int .i64 tol'), .v (.int .i64 rate'), .sl y2' _ rows2' _], .v (.int .i64 t)] =>
    some (gP y1 rows1 y2 rows2 ∧ gP y1' rows1' y2' rows2', tup3 (bothS ⟨d, rows1.map dec3, tol, rate, rows2.map dec2⟩ ⟨d', rows1'.map dec3, tol', rate', rows2'.map dec2⟩ t))
  | _ => none
theorem gP_wk {d tol rate : Int} {y1 y2 : Nat} {f1 f2 : Bool} {rows1 rows2 : List (List AV)} {z1 z2 : List AV} (h : gP y1 rows1 y2 rows2) :
    wk (.agg [.v (.int .i64 d), .sl y1 f1 rows1 z1, .v (.int .i64 tol), .v (.int .i64 rate), .sl y2 f2 rows2 z2]) (.agg (gCells ⟨d, rows1.map dec3, tol, rate, rows2.map dec2⟩ f1 f2 z1 z2)) := by
  obtain ⟨h1, h2, h3, h4, _⟩ := h
  simp only [wkL, wk, gCells, and_true, true_and]
  exact ⟨⟨h2, h1, fun h => h⟩, h4, h3, fun h => h⟩
theorem gP_len {y1 y2 : Nat} {rows1 rows2 : List (List AV)} (h : gP y1 rows1 y2 rows2) : (rows2.map dec2).length ≤ 1000 := by simpa using h.2.2.2.2
theorem bounds_fok : FOK Try.prog 18 sBounds := ⟨of18, by
  intro args vc r h hv
  unfold sBounds at h
  split at h
  · rename_i d y1 f1 rows1 z1 tol rate y2 f2 rows2 z2 t
    cases h
    refine PCall.arg ?_ (bounds_ok _ f1 f2 z1 z2 _ (gP_len hv))
    exact ⟨gP_wk (f1 := f1) (f2 := f2) (z1 := z1) (z2 := z2) hv, rfl, trivial⟩
  · simp at h⟩
theorem reason_fok : FOK Try.prog 20 sReason := ⟨of20, by
  intro args vc r h hv
  unfold sReason at h
  split at h
  · rename_i d y1 f1 rows1 z1 tol rate y2 f2 rows2 z2 t
    cases h
    refine PCall.arg ?_ (reason_ok _ f1 f2 z1 z2 _ (gP_len hv))
    exact ⟨gP_wk (f1 := f1) (f2 := f2) (z1 := z1) (z2 := z2) hv, rfl, trivial⟩
  · simp at h⟩
theorem both_fok : FOK Try.prog 22 sBoth := ⟨of22, by
  intro args vc r h hv
  unfold sBoth at h
  split at h
  · rename_i d y1 f1 rows1 z1 tol rate y2 f2 rows2 z2 d' y1' f1' rows1' z1' tol' rate' y2' f2' rows2' z2' t
    cases h
    refine PCall.arg ?_ (both_ok _ _ f1 f2 f1' f2' z1 z2 z1' z2' _ (gP_len hv.1) (gP_len hv.2))
    exact ⟨gP_wk (f1 := f1) (f2 := f2) (z1 := z1) (z2 := z2) hv.1, gP_wk (f1 := f1') (f2 := f2') (z1 := z1') (z2 := z2') hv.2, rfl, trivial⟩
  · simp at h⟩

/- The example. -/
def exAV : AV := .agg [.i 0, .sl 3 false [[.i 0, .i 0, .i 0]] [.i 0, .i 0, .i 0], .i 2, .i 3, .sl 2 false [[.i 10, .i 100], [.i 20, .i 120]] [.i 0, .i 0]]
theorem example_ok : PCall Try.prog 31 [] exAV := by
  refine pcall_fn S0_ok _ Try.func31 ok31 nt31 (by simp) fun _ => ?_
  have hS := S0_ok
  unfold ac31 rv31
  repeat' (first
    | ((first | with_reducible apply awp_sr5 | with_reducible apply awp_r5 | with_reducible apply awp_sd | with_reducible apply awp_d | with_reducible apply inlR_n5 | with_reducible apply inlR_r5); (· (first | exact Ctx.fn_ok hS | exact Ctx.rd_ok hS | assumption | exact True.intro)); iterate 2 (· (simp only [go_sem, seval] <;> eq_refl)))
    | (first | with_reducible apply awp_scp | with_reducible apply awp_sn | with_reducible apply awp_nop | with_reducible apply awp_ret | with_reducible apply awp_exit | with_reducible apply awp_block | with_reducible apply awp_seq | with_reducible apply seqK_n | with_reducible apply seqK_r | with_reducible apply seqK_x | with_reducible apply blkK_n | with_reducible apply blkK_r | with_reducible apply blkK_x)
    | (with_reducible apply blkK_y; (· first | rfl | decide))
    | (first | with_reducible apply backK_x | with_reducible apply backK_r | with_reducible apply asgK_n | with_reducible apply rngK_x | with_reducible apply rngK_r | with_reducible apply True.intro | with_reducible apply And.intro True.intro True.intro)
    | (fail_if_success with_reducible apply K_id); (fail_if_success with_reducible apply awp_id); first | omega | (simp only [go_sem, seval]; done)
    | fail)
  first | refine endK_r (by simp only [go_sem, seval] <;> eq_refl) (by simp only [go_sem, seval]) (by simp only [go_sem, seval]) ?_ rfl | refine endK_n (by simp only [go_sem, seval] <;> eq_refl) (by simp only [go_sem, seval]) (by simp only [go_sem, seval]) ?_ rfl
  simp only [exAV, go_sem, seval]
def sExample : Spec
  | [] => some (True, exAV)
  | _ => none
theorem example_fok : FOK Try.prog 31 sExample := ⟨of31, by
  intro args vc r h hv
  unfold sExample at h
  split at h
  · cases h; exact example_ok
  · simp at h⟩

abbrev exG : Ga := ⟨0, [(0, 0, 0)], 2, 3, [(10, 100), (20, 120)]⟩
theorem ex1 : boundsS exG 10 = (98, 102, 0) := by kernel_rfl
theorem ex2 : boundsS exG 15 = (103, 117, 0) := by kernel_rfl
theorem ex3 : boundsS exG 20 = (118, 122, 0) := by kernel_rfl
theorem ex4 : boundsS exG 30 = (88, 152, 0) := by kernel_rfl
theorem ex5 : reasonS exG 10 = (0, 0, 0) := by kernel_rfl
theorem ex6 : reasonS exG 15 = (1, 0, 0) := by kernel_rfl
theorem ex7 : overS exG 116 0 20 = (1, 0) := by kernel_rfl
theorem ex8 : overS exG 116 0 21 = (2, 0) := by kernel_rfl
theorem ex9 : overS exG 122 20 21 = (0, 0) := by kernel_rfl
theorem ex10 : alarmS exG 110 0 30 = (18, 0, 0) := by kernel_rfl
theorem ex11 : bothS exG ⟨0, [(0, 0, 0)], 0, 1, [(15, 105)]⟩ 15 = (105, 105, 0) := by kernel_rfl
theorem ex12 : bothS exG ⟨0, [(0, 0, 0)], 0, 1, [(15, 99)]⟩ 15 = (0, 0, 240) := by kernel_rfl
theorem ex13 : validG exG = true := by kernel_rfl
theorem ex14 : validG ⟨0, [], 0, -1, []⟩ = false := by kernel_rfl

def S30 : List (Nat × Spec) := [(31, sExample), (18, sBounds), (20, sReason), (24, sOver), (26, sAlarm), (22, sBoth), (16, sMonValid)]
theorem S30_ok : TabOK Try.prog (tabOf S30) := tab_cons example_fok (tab_cons bounds_fok (tab_cons reason_fok (tab_cons over_fok (tab_cons alarm_fok (tab_cons both_fok (tab_cons monValid_fok tab_nil))))))

theorem sane_ok : PCall Try.prog 11 [] (.b true) := by
  refine pcall_fn S30_ok _ Try.func11 ok11 nt11 (by simp) fun _ => ?_
  have hS := S30_ok
  unfold ac11 rv11
  repeat' (first
    | ((first | with_reducible apply awp_sr5 | with_reducible apply awp_r5 | with_reducible apply awp_sd | with_reducible apply awp_d | with_reducible apply inlR_n5 | with_reducible apply inlR_r5); (· (first | exact Ctx.fn_ok hS | exact Ctx.rd_ok hS | assumption | exact True.intro)); iterate 2 (· (simp only [go_sem, seval, Am.S30, Am.sExample, Am.exAV] <;> eq_refl)))
    | (first | with_reducible apply awp_scp | with_reducible apply awp_sn | with_reducible apply awp_nop | with_reducible apply awp_ret | with_reducible apply awp_exit | with_reducible apply awp_block | with_reducible apply awp_seq | with_reducible apply seqK_n | with_reducible apply seqK_r | with_reducible apply seqK_x | with_reducible apply blkK_n | with_reducible apply blkK_r | with_reducible apply blkK_x)
    | (with_reducible apply blkK_y; (· first | rfl | decide))
    | (first | with_reducible apply backK_x | with_reducible apply backK_r | with_reducible apply asgK_n | with_reducible apply rngK_x | with_reducible apply rngK_r | with_reducible apply True.intro | with_reducible apply And.intro True.intro True.intro)
    | (fail_if_success with_reducible apply K_id); (fail_if_success with_reducible apply awp_id); first | omega | (simp only [go_sem, seval, Am.S30, Am.sExample, Am.exAV]; done)
    | fail)
  refine awp_loop (fun x : Int × Nat => ⟨[(3, .i x.1), (2, .own (204, 3) 4), (1, .box (101, 2) 0)],
      [(.a (204, 3), .sl 3 true [[.i 10, .i 98, .i 102], [.i 15, .i 103, .i 117], [.i 20, .i 118, .i 122], [.i 30, .i 88, .i 152]] [.i 0, .i 0, .i 0]),
       (.c (101, 2) 0, .i 0), (.c (101, 2) 1, .sl 3 false [[.i 0, .i 0, .i 0]] [.i 0, .i 0, .i 0]), (.c (101, 2) 2, .i 2), (.c (101, 2) 3, .i 3), (.c (101, 2) 4, .sl 2 false [[.i 10, .i 100], [.i 20, .i 120]] [.i 0, .i 0])], x.2⟩)
    (fun x => 0 ≤ x.1 ∧ x.1 ≤ 4) (fun x => (4 - x.1).toNat) (0, 50) ?_ ?_ ?_
  · simp
  · refine Le.of ?_ ?_ (by simp) <;> (simp only [go_sem, seval]; try simp)
  · rintro ⟨i, c⟩ ⟨hi1, hi2⟩
    simp only at hi1 hi2
    rcases (by omega : i = 0 ∨ i = 1 ∨ i = 2 ∨ i = 3 ∨ i = 4) with h | h | h | h | h
    · subst h
      repeat' (first
    | ((first | with_reducible apply awp_sr5 | with_reducible apply awp_r5 | with_reducible apply awp_sd | with_reducible apply awp_d | with_reducible apply inlR_n5 | with_reducible apply inlR_r5); (· (first | exact Ctx.fn_ok hS | exact Ctx.rd_ok hS | assumption | exact True.intro)); iterate 2 (· (simp only [go_sem, seval] <;> eq_refl)))
    | (first | with_reducible apply awp_scp | with_reducible apply awp_sn | with_reducible apply awp_nop | with_reducible apply awp_ret | with_reducible apply awp_exit | with_reducible apply awp_block | with_reducible apply awp_seq | with_reducible apply seqK_n | with_reducible apply seqK_r | with_reducible apply seqK_x | with_reducible apply blkK_n | with_reducible apply blkK_r | with_reducible apply blkK_x)
    | (with_reducible apply blkK_y; (· first | rfl | decide))
    | (first | with_reducible apply backK_x | with_reducible apply backK_r | with_reducible apply asgK_n | with_reducible apply rngK_x | with_reducible apply rngK_r | with_reducible apply True.intro | with_reducible apply And.intro True.intro True.intro)
    | (fail_if_success with_reducible apply K_id); (fail_if_success with_reducible apply awp_id); first | omega | (simp only [go_sem, seval]; done)
    | fail)
      refine awp_ct (by simp only [go_sem, seval] <;> eq_refl) ?_
      repeat' (first
    | ((first | with_reducible apply awp_sr5 | with_reducible apply awp_r5 | with_reducible apply awp_sd | with_reducible apply awp_d | with_reducible apply inlR_n5 | with_reducible apply inlR_r5); (· (first | exact Ctx.fn_ok hS | exact Ctx.rd_ok hS | assumption | exact True.intro)); iterate 2 (· (simp only [go_sem, seval, Am.rowAt, Am.S30, Am.sBounds, Am.gP, Am.dec3, Am.dec2, Am.row3, Am.row2, Am.tup3, ex1, ex2, ex3, ex4] <;> eq_refl)))
    | (first | with_reducible apply awp_scp | with_reducible apply awp_sn | with_reducible apply awp_nop | with_reducible apply awp_ret | with_reducible apply awp_exit | with_reducible apply awp_block | with_reducible apply awp_seq | with_reducible apply seqK_n | with_reducible apply seqK_r | with_reducible apply seqK_x | with_reducible apply blkK_n | with_reducible apply blkK_r | with_reducible apply blkK_x)
    | (with_reducible apply blkK_y; (· first | rfl | decide))
    | (first | with_reducible apply backK_x | with_reducible apply backK_r | with_reducible apply asgK_n | with_reducible apply rngK_x | with_reducible apply rngK_r | with_reducible apply True.intro | with_reducible apply And.intro True.intro True.intro)
    | (fail_if_success with_reducible apply K_id); (fail_if_success with_reducible apply awp_id); first | omega | (simp only [go_sem, seval, Am.rowAt, Am.S30, Am.sBounds, Am.gP, Am.dec3, Am.dec2, Am.row3, Am.row2, Am.tup3, ex1, ex2, ex3, ex4]; done)
    | fail)
      refine awp_cf (by simp only [go_sem, seval] <;> eq_refl) ?_
      repeat' (first
    | ((first | with_reducible apply awp_sr5 | with_reducible apply awp_r5 | with_reducible apply awp_sd | with_reducible apply awp_d | with_reducible apply inlR_n5 | with_reducible apply inlR_r5); (· (first | exact Ctx.fn_ok hS | exact Ctx.rd_ok hS | assumption | exact True.intro)); iterate 2 (· (simp only [go_sem, seval] <;> eq_refl)))
    | (first | with_reducible apply awp_scp | with_reducible apply awp_sn | with_reducible apply awp_nop | with_reducible apply awp_ret | with_reducible apply awp_exit | with_reducible apply awp_block | with_reducible apply awp_seq | with_reducible apply seqK_n | with_reducible apply seqK_r | with_reducible apply seqK_x | with_reducible apply blkK_n | with_reducible apply blkK_r | with_reducible apply blkK_x)
    | (with_reducible apply blkK_y; (· first | rfl | decide))
    | (first | with_reducible apply backK_x | with_reducible apply backK_r | with_reducible apply asgK_n | with_reducible apply rngK_x | with_reducible apply rngK_r | with_reducible apply True.intro | with_reducible apply And.intro True.intro True.intro)
    | (fail_if_success with_reducible apply K_id); (fail_if_success with_reducible apply awp_id); first | omega | (simp only [go_sem, seval]; done)
    | fail)
      refine backK_n (1, c + 50) ⟨by simp, by simp⟩ (by simp) (Le.of ?_ ?_ ?_)
      · simp only [go_sem, seval]
      · simp only [go_sem, seval]
      · simp
    · subst h
      repeat' (first
    | ((first | with_reducible apply awp_sr5 | with_reducible apply awp_r5 | with_reducible apply awp_sd | with_reducible apply awp_d | with_reducible apply inlR_n5 | with_reducible apply inlR_r5); (· (first | exact Ctx.fn_ok hS | exact Ctx.rd_ok hS | assumption | exact True.intro)); iterate 2 (· (simp only [go_sem, seval] <;> eq_refl)))
    | (first | with_reducible apply awp_scp | with_reducible apply awp_sn | with_reducible apply awp_nop | with_reducible apply awp_ret | with_reducible apply awp_exit | with_reducible apply awp_block | with_reducible apply awp_seq | with_reducible apply seqK_n | with_reducible apply seqK_r | with_reducible apply seqK_x | with_reducible apply blkK_n | with_reducible apply blkK_r | with_reducible apply blkK_x)
    | (with_reducible apply blkK_y; (· first | rfl | decide))
    | (first | with_reducible apply backK_x | with_reducible apply backK_r | with_reducible apply asgK_n | with_reducible apply rngK_x | with_reducible apply rngK_r | with_reducible apply True.intro | with_reducible apply And.intro True.intro True.intro)
    | (fail_if_success with_reducible apply K_id); (fail_if_success with_reducible apply awp_id); first | omega | (simp only [go_sem, seval]; done)
    | fail)
      refine awp_ct (by simp only [go_sem, seval] <;> eq_refl) ?_
      repeat' (first
    | ((first | with_reducible apply awp_sr5 | with_reducible apply awp_r5 | with_reducible apply awp_sd | with_reducible apply awp_d | with_reducible apply inlR_n5 | with_reducible apply inlR_r5); (· (first | exact Ctx.fn_ok hS | exact Ctx.rd_ok hS | assumption | exact True.intro)); iterate 2 (· (simp only [go_sem, seval, Am.rowAt, Am.S30, Am.sBounds, Am.gP, Am.dec3, Am.dec2, Am.row3, Am.row2, Am.tup3, ex1, ex2, ex3, ex4] <;> eq_refl)))
    | (first | with_reducible apply awp_scp | with_reducible apply awp_sn | with_reducible apply awp_nop | with_reducible apply awp_ret | with_reducible apply awp_exit | with_reducible apply awp_block | with_reducible apply awp_seq | with_reducible apply seqK_n | with_reducible apply seqK_r | with_reducible apply seqK_x | with_reducible apply blkK_n | with_reducible apply blkK_r | with_reducible apply blkK_x)
    | (with_reducible apply blkK_y; (· first | rfl | decide))
    | (first | with_reducible apply backK_x | with_reducible apply backK_r | with_reducible apply asgK_n | with_reducible apply rngK_x | with_reducible apply rngK_r | with_reducible apply True.intro | with_reducible apply And.intro True.intro True.intro)
    | (fail_if_success with_reducible apply K_id); (fail_if_success with_reducible apply awp_id); first | omega | (simp only [go_sem, seval, Am.rowAt, Am.S30, Am.sBounds, Am.gP, Am.dec3, Am.dec2, Am.row3, Am.row2, Am.tup3, ex1, ex2, ex3, ex4]; done)
    | fail)
      refine awp_cf (by simp only [go_sem, seval] <;> eq_refl) ?_
      repeat' (first
    | ((first | with_reducible apply awp_sr5 | with_reducible apply awp_r5 | with_reducible apply awp_sd | with_reducible apply awp_d | with_reducible apply inlR_n5 | with_reducible apply inlR_r5); (· (first | exact Ctx.fn_ok hS | exact Ctx.rd_ok hS | assumption | exact True.intro)); iterate 2 (· (simp only [go_sem, seval] <;> eq_refl)))
    | (first | with_reducible apply awp_scp | with_reducible apply awp_sn | with_reducible apply awp_nop | with_reducible apply awp_ret | with_reducible apply awp_exit | with_reducible apply awp_block | with_reducible apply awp_seq | with_reducible apply seqK_n | with_reducible apply seqK_r | with_reducible apply seqK_x | with_reducible apply blkK_n | with_reducible apply blkK_r | with_reducible apply blkK_x)
    | (with_reducible apply blkK_y; (· first | rfl | decide))
    | (first | with_reducible apply backK_x | with_reducible apply backK_r | with_reducible apply asgK_n | with_reducible apply rngK_x | with_reducible apply rngK_r | with_reducible apply True.intro | with_reducible apply And.intro True.intro True.intro)
    | (fail_if_success with_reducible apply K_id); (fail_if_success with_reducible apply awp_id); first | omega | (simp only [go_sem, seval]; done)
    | fail)
      refine backK_n (2, c + 50) ⟨by simp, by simp⟩ (by simp) (Le.of ?_ ?_ ?_)
      · simp only [go_sem, seval]
      · simp only [go_sem, seval]
      · simp
    · subst h
      repeat' (first
    | ((first | with_reducible apply awp_sr5 | with_reducible apply awp_r5 | with_reducible apply awp_sd | with_reducible apply awp_d | with_reducible apply inlR_n5 | with_reducible apply inlR_r5); (· (first | exact Ctx.fn_ok hS | exact Ctx.rd_ok hS | assumption | exact True.intro)); iterate 2 (· (simp only [go_sem, seval] <;> eq_refl)))
    | (first | with_reducible apply awp_scp | with_reducible apply awp_sn | with_reducible apply awp_nop | with_reducible apply awp_ret | with_reducible apply awp_exit | with_reducible apply awp_block | with_reducible apply awp_seq | with_reducible apply seqK_n | with_reducible apply seqK_r | with_reducible apply seqK_x | with_reducible apply blkK_n | with_reducible apply blkK_r | with_reducible apply blkK_x)
    | (with_reducible apply blkK_y; (· first | rfl | decide))
    | (first | with_reducible apply backK_x | with_reducible apply backK_r | with_reducible apply asgK_n | with_reducible apply rngK_x | with_reducible apply rngK_r | with_reducible apply True.intro | with_reducible apply And.intro True.intro True.intro)
    | (fail_if_success with_reducible apply K_id); (fail_if_success with_reducible apply awp_id); first | omega | (simp only [go_sem, seval]; done)
    | fail)
      refine awp_ct (by simp only [go_sem, seval] <;> eq_refl) ?_
      repeat' (first
    | ((first | with_reducible apply awp_sr5 | with_reducible apply awp_r5 | with_reducible apply awp_sd | with_reducible apply awp_d | with_reducible apply inlR_n5 | with_reducible apply inlR_r5); (· (first | exact Ctx.fn_ok hS | exact Ctx.rd_ok hS | assumption | exact True.intro)); iterate 2 (· (simp only [go_sem, seval, Am.rowAt, Am.S30, Am.sBounds, Am.gP, Am.dec3, Am.dec2, Am.row3, Am.row2, Am.tup3, ex1, ex2, ex3, ex4] <;> eq_refl)))
    | (first | with_reducible apply awp_scp | with_reducible apply awp_sn | with_reducible apply awp_nop | with_reducible apply awp_ret | with_reducible apply awp_exit | with_reducible apply awp_block | with_reducible apply awp_seq | with_reducible apply seqK_n | with_reducible apply seqK_r | with_reducible apply seqK_x | with_reducible apply blkK_n | with_reducible apply blkK_r | with_reducible apply blkK_x)
    | (with_reducible apply blkK_y; (· first | rfl | decide))
    | (first | with_reducible apply backK_x | with_reducible apply backK_r | with_reducible apply asgK_n | with_reducible apply rngK_x | with_reducible apply rngK_r | with_reducible apply True.intro | with_reducible apply And.intro True.intro True.intro)
    | (fail_if_success with_reducible apply K_id); (fail_if_success with_reducible apply awp_id); first | omega | (simp only [go_sem, seval, Am.rowAt, Am.S30, Am.sBounds, Am.gP, Am.dec3, Am.dec2, Am.row3, Am.row2, Am.tup3, ex1, ex2, ex3, ex4]; done)
    | fail)
      refine awp_cf (by simp only [go_sem, seval] <;> eq_refl) ?_
      repeat' (first
    | ((first | with_reducible apply awp_sr5 | with_reducible apply awp_r5 | with_reducible apply awp_sd | with_reducible apply awp_d | with_reducible apply inlR_n5 | with_reducible apply inlR_r5); (· (first | exact Ctx.fn_ok hS | exact Ctx.rd_ok hS | assumption | exact True.intro)); iterate 2 (· (simp only [go_sem, seval] <;> eq_refl)))
    | (first | with_reducible apply awp_scp | with_reducible apply awp_sn | with_reducible apply awp_nop | with_reducible apply awp_ret | with_reducible apply awp_exit | with_reducible apply awp_block | with_reducible apply awp_seq | with_reducible apply seqK_n | with_reducible apply seqK_r | with_reducible apply seqK_x | with_reducible apply blkK_n | with_reducible apply blkK_r | with_reducible apply blkK_x)
    | (with_reducible apply blkK_y; (· first | rfl | decide))
    | (first | with_reducible apply backK_x | with_reducible apply backK_r | with_reducible apply asgK_n | with_reducible apply rngK_x | with_reducible apply rngK_r | with_reducible apply True.intro | with_reducible apply And.intro True.intro True.intro)
    | (fail_if_success with_reducible apply K_id); (fail_if_success with_reducible apply awp_id); first | omega | (simp only [go_sem, seval]; done)
    | fail)
      refine backK_n (3, c + 50) ⟨by simp, by simp⟩ (by simp) (Le.of ?_ ?_ ?_)
      · simp only [go_sem, seval]
      · simp only [go_sem, seval]
      · simp
    · subst h
      repeat' (first
    | ((first | with_reducible apply awp_sr5 | with_reducible apply awp_r5 | with_reducible apply awp_sd | with_reducible apply awp_d | with_reducible apply inlR_n5 | with_reducible apply inlR_r5); (· (first | exact Ctx.fn_ok hS | exact Ctx.rd_ok hS | assumption | exact True.intro)); iterate 2 (· (simp only [go_sem, seval] <;> eq_refl)))
    | (first | with_reducible apply awp_scp | with_reducible apply awp_sn | with_reducible apply awp_nop | with_reducible apply awp_ret | with_reducible apply awp_exit | with_reducible apply awp_block | with_reducible apply awp_seq | with_reducible apply seqK_n | with_reducible apply seqK_r | with_reducible apply seqK_x | with_reducible apply blkK_n | with_reducible apply blkK_r | with_reducible apply blkK_x)
    | (with_reducible apply blkK_y; (· first | rfl | decide))
    | (first | with_reducible apply backK_x | with_reducible apply backK_r | with_reducible apply asgK_n | with_reducible apply rngK_x | with_reducible apply rngK_r | with_reducible apply True.intro | with_reducible apply And.intro True.intro True.intro)
    | (fail_if_success with_reducible apply K_id); (fail_if_success with_reducible apply awp_id); first | omega | (simp only [go_sem, seval]; done)
    | fail)
      refine awp_ct (by simp only [go_sem, seval] <;> eq_refl) ?_
      repeat' (first
    | ((first | with_reducible apply awp_sr5 | with_reducible apply awp_r5 | with_reducible apply awp_sd | with_reducible apply awp_d | with_reducible apply inlR_n5 | with_reducible apply inlR_r5); (· (first | exact Ctx.fn_ok hS | exact Ctx.rd_ok hS | assumption | exact True.intro)); iterate 2 (· (simp only [go_sem, seval, Am.rowAt, Am.S30, Am.sBounds, Am.gP, Am.dec3, Am.dec2, Am.row3, Am.row2, Am.tup3, ex1, ex2, ex3, ex4] <;> eq_refl)))
    | (first | with_reducible apply awp_scp | with_reducible apply awp_sn | with_reducible apply awp_nop | with_reducible apply awp_ret | with_reducible apply awp_exit | with_reducible apply awp_block | with_reducible apply awp_seq | with_reducible apply seqK_n | with_reducible apply seqK_r | with_reducible apply seqK_x | with_reducible apply blkK_n | with_reducible apply blkK_r | with_reducible apply blkK_x)
    | (with_reducible apply blkK_y; (· first | rfl | decide))
    | (first | with_reducible apply backK_x | with_reducible apply backK_r | with_reducible apply asgK_n | with_reducible apply rngK_x | with_reducible apply rngK_r | with_reducible apply True.intro | with_reducible apply And.intro True.intro True.intro)
    | (fail_if_success with_reducible apply K_id); (fail_if_success with_reducible apply awp_id); first | omega | (simp only [go_sem, seval, Am.rowAt, Am.S30, Am.sBounds, Am.gP, Am.dec3, Am.dec2, Am.row3, Am.row2, Am.tup3, ex1, ex2, ex3, ex4]; done)
    | fail)
      refine awp_cf (by simp only [go_sem, seval] <;> eq_refl) ?_
      repeat' (first
    | ((first | with_reducible apply awp_sr5 | with_reducible apply awp_r5 | with_reducible apply awp_sd | with_reducible apply awp_d | with_reducible apply inlR_n5 | with_reducible apply inlR_r5); (· (first | exact Ctx.fn_ok hS | exact Ctx.rd_ok hS | assumption | exact True.intro)); iterate 2 (· (simp only [go_sem, seval] <;> eq_refl)))
    | (first | with_reducible apply awp_scp | with_reducible apply awp_sn | with_reducible apply awp_nop | with_reducible apply awp_ret | with_reducible apply awp_exit | with_reducible apply awp_block | with_reducible apply awp_seq | with_reducible apply seqK_n | with_reducible apply seqK_r | with_reducible apply seqK_x | with_reducible apply blkK_n | with_reducible apply blkK_r | with_reducible apply blkK_x)
    | (with_reducible apply blkK_y; (· first | rfl | decide))
    | (first | with_reducible apply backK_x | with_reducible apply backK_r | with_reducible apply asgK_n | with_reducible apply rngK_x | with_reducible apply rngK_r | with_reducible apply True.intro | with_reducible apply And.intro True.intro True.intro)
    | (fail_if_success with_reducible apply K_id); (fail_if_success with_reducible apply awp_id); first | omega | (simp only [go_sem, seval]; done)
    | fail)
      refine backK_n (4, c + 50) ⟨by simp, by simp⟩ (by simp) (Le.of ?_ ?_ ?_)
      · simp only [go_sem, seval]
      · simp only [go_sem, seval]
      · simp
    · subst h
      repeat' (first
    | ((first | with_reducible apply awp_sr5 | with_reducible apply awp_r5 | with_reducible apply awp_sd | with_reducible apply awp_d | with_reducible apply inlR_n5 | with_reducible apply inlR_r5); (· (first | exact Ctx.fn_ok hS | exact Ctx.rd_ok hS | assumption | exact True.intro)); iterate 2 (· (simp only [go_sem, seval] <;> eq_refl)))
    | (first | with_reducible apply awp_scp | with_reducible apply awp_sn | with_reducible apply awp_nop | with_reducible apply awp_ret | with_reducible apply awp_exit | with_reducible apply awp_block | with_reducible apply awp_seq | with_reducible apply seqK_n | with_reducible apply seqK_r | with_reducible apply seqK_x | with_reducible apply blkK_n | with_reducible apply blkK_r | with_reducible apply blkK_x)
    | (with_reducible apply blkK_y; (· first | rfl | decide))
    | (first | with_reducible apply backK_x | with_reducible apply backK_r | with_reducible apply asgK_n | with_reducible apply rngK_x | with_reducible apply rngK_r | with_reducible apply True.intro | with_reducible apply And.intro True.intro True.intro)
    | (fail_if_success with_reducible apply K_id); (fail_if_success with_reducible apply awp_id); first | omega | (simp only [go_sem, seval]; done)
    | fail)
      refine awp_cf (by simp only [go_sem, seval] <;> eq_refl) ?_
      repeat' (first
    | ((first | with_reducible apply awp_sr5 | with_reducible apply awp_r5 | with_reducible apply awp_sd | with_reducible apply awp_d | with_reducible apply inlR_n5 | with_reducible apply inlR_r5); (· (first | exact Ctx.fn_ok hS | exact Ctx.rd_ok hS | assumption | exact True.intro)); iterate 2 (· (simp only [go_sem, seval, Am.S30, Am.sReason, Am.sOver, Am.sAlarm, Am.sBoth, Am.sMonValid, Am.gP, Am.dec3, Am.dec2, Am.row3, Am.row2, Am.tup3, ex5, ex6, ex7, ex8, ex9, ex10, ex11, ex12, ex13, ex14] <;> eq_refl)))
    | (first | with_reducible apply awp_scp | with_reducible apply awp_sn | with_reducible apply awp_nop | with_reducible apply awp_ret | with_reducible apply awp_exit | with_reducible apply awp_block | with_reducible apply awp_seq | with_reducible apply seqK_n | with_reducible apply seqK_r | with_reducible apply seqK_x | with_reducible apply blkK_n | with_reducible apply blkK_r | with_reducible apply blkK_x)
    | (with_reducible apply blkK_y; (· first | rfl | decide))
    | (first | with_reducible apply backK_x | with_reducible apply backK_r | with_reducible apply asgK_n | with_reducible apply rngK_x | with_reducible apply rngK_r | with_reducible apply True.intro | with_reducible apply And.intro True.intro True.intro)
    | (fail_if_success with_reducible apply K_id); (fail_if_success with_reducible apply awp_id); first | omega | (simp only [go_sem, seval, Am.S30, Am.sReason, Am.sOver, Am.sAlarm, Am.sBoth, Am.sMonValid, Am.gP, Am.dec3, Am.dec2, Am.row3, Am.row2, Am.tup3, ex5, ex6, ex7, ex8, ex9, ex10, ex11, ex12, ex13, ex14]; done)
    | fail)
      first | refine endK_r (by simp only [go_sem, seval] <;> eq_refl) (by simp only [go_sem, seval]) (by simp only [go_sem, seval]) ?_ rfl | refine endK_n (by simp only [go_sem, seval] <;> eq_refl) (by simp only [go_sem, seval]) (by simp only [go_sem, seval]) ?_ rfl
      simp only [go_sem, seval]

def sSane : Spec
  | [] => some (True, .b true)
  | _ => none
theorem sane_fok : FOK Try.prog 11 sSane := ⟨of11, by
  intro args vc r h hv
  unfold sSane at h
  split at h
  · cases h; exact sane_ok
  · simp at h⟩
def sMade24 : Spec
  | [.agg [.v (.int .i64 dr), .v (.int .i64 sr), .sl y1 _ rows1 _, .sl y2 _ rows2 _, .v (.int .i64 tol), .v (.int .i64 rate), .v (.int .i64 first), .sl y3 _ rows3 _, .sl y4 _ rows4 _]] =>
    some (((y1 = 1 ∨ rows1 = []) ∧ (y2 = 3 ∨ rows2 = []) ∧ (y3 = 1 ∨ rows3 = []) ∧ (y4 = 2 ∨ rows4 = [])) ∧ (rows1 = (rows1.map dec1).map row1 ∧ rows2 = (rows2.map dec3).map row3 ∧ rows3 = (rows3.map dec1).map row1 ∧ rows4 = (rows4.map dec2).map row2) ∧
      Sty.In ⟨dr, sr, rows1.map dec1, rows2.map dec3, tol, rate, first, rows3.map dec1, rows4.map dec2⟩, .agg (gCells (made24 ⟨dr, sr, rows1.map dec1, rows2.map dec3, tol, rate, first, rows3.map dec1, rows4.map dec2⟩) false false [.i 0, .i 0, .i 0] [.i 0, .i 0]))
  | _ => none
theorem made24_fok : FOK Try.prog 12 sMade24 := ⟨of12, by
  intro args vc r h hv
  unfold sMade24 at h
  split at h
  · rename_i dr sr y1 f1 rows1 z1 y2 f2 rows2 z2 tol rate first y3 f3 rows3 z3 y4 f4 rows4 z4
    cases h
    obtain ⟨⟨a1, a2, a3, a4⟩, ⟨b1, b2, b3, b4⟩, hx⟩ := hv
    refine PCall.arg ?_ (made24_ok _ hx f1 f2 f3 f4 z1 z2 z3 z4)
    simp only [wkL, wk, stCells, and_true, true_and]
    exact ⟨⟨b1, a1, fun h => h⟩, ⟨b2, a2, fun h => h⟩, ⟨b3, a3, fun h => h⟩, b4, a4, fun h => h⟩
  · simp at h⟩
end Go.Proofs.Ytmmfbjmjhjmccaa.Am
