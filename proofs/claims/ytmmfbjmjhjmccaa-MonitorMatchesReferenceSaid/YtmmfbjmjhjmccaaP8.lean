import Derived.Test.YtmmfbjmjhjmccaaP7
namespace Go.Proofs.Ytmmfbjmjhjmccaa.Am
open Go
attribute [local irreducible] awp seqK blkK backK endK inlK restK rngK asgK itK
set_option maxRecDepth 100000
set_option maxHeartbeats 8000000
set_option linter.unusedSimpArgs false
set_option linter.unusedVariables false
abbrev inI (c : Int) : Prop := -9223372036854775808 ≤ c ∧ c ≤ 9223372036854775807
def sPick : Spec
  | [.v (.int .i64 c), .v (.int .i64 n)] => some (inI c ∧ 0 < n, .i (pickS c n))
  | _ => none
theorem pick_fok : FOK Try.prog 15 sPick := ⟨of15, by
  intro args vc r h hv
  unfold sPick at h
  split at h
  · cases h; exact pick_ok _ _ hv.1 hv.2
  · simp at h⟩
theorem pick24_fok : FOK Try.prog 32 sPick := ⟨of32, by
  intro args vc r h hv
  unfold sPick at h
  split at h
  · rename_i c n
    cases h
    obtain ⟨hc, hn⟩ := hv
    refine pcall_fn S0_ok _ Try.func32 ok32 nt32 (by simp) fun _ => ?_
    have hS := S0_ok
    unfold ac32 rv32
    repeat' (first
    | ((first | with_reducible apply awp_sr5 | with_reducible apply awp_r5 | with_reducible apply awp_sd | with_reducible apply awp_d | with_reducible apply inlR_n5 | with_reducible apply inlR_r5); (· (first | exact Ctx.fn_ok hS | exact Ctx.rd_ok hS | assumption | exact True.intro)); iterate 2 (· (simp only [go_sem, seval] <;> eq_refl)))
    | (first | with_reducible apply awp_scp | with_reducible apply awp_sn | with_reducible apply awp_nop | with_reducible apply awp_ret | with_reducible apply awp_exit | with_reducible apply awp_block | with_reducible apply awp_seq | with_reducible apply seqK_n | with_reducible apply seqK_r | with_reducible apply seqK_x | with_reducible apply blkK_n | with_reducible apply blkK_r | with_reducible apply blkK_x)
    | (with_reducible apply blkK_y; (· first | rfl | decide))
    | (first | with_reducible apply backK_x | with_reducible apply backK_r | with_reducible apply asgK_n | with_reducible apply rngK_x | with_reducible apply rngK_r | with_reducible apply True.intro | with_reducible apply And.intro True.intro True.intro)
    | (fail_if_success with_reducible apply K_id); (fail_if_success with_reducible apply awp_id); first | omega | (simp only [go_sem, seval]; done)
    | fail)
    refine awp_cp (c < 0) (by simp only [go_sem, seval] <;> eq_refl) (by first | simp only [Bool.decide_or, Bool.decide_and, decide_not] | simp) (fun h => ?_) (fun h => ?_)
    · repeat' (first
    | ((first | with_reducible apply awp_sr5 | with_reducible apply awp_r5 | with_reducible apply awp_sd | with_reducible apply awp_d | with_reducible apply inlR_n5 | with_reducible apply inlR_r5); (· (first | exact Ctx.fn_ok hS | exact Ctx.rd_ok hS | assumption | exact True.intro)); iterate 2 (· (simp only [go_sem, seval] <;> eq_refl)))
    | (first | with_reducible apply awp_scp | with_reducible apply awp_sn | with_reducible apply awp_nop | with_reducible apply awp_ret | with_reducible apply awp_exit | with_reducible apply awp_block | with_reducible apply awp_seq | with_reducible apply seqK_n | with_reducible apply seqK_r | with_reducible apply seqK_x | with_reducible apply blkK_n | with_reducible apply blkK_r | with_reducible apply blkK_x)
    | (with_reducible apply blkK_y; (· first | rfl | decide))
    | (first | with_reducible apply backK_x | with_reducible apply backK_r | with_reducible apply asgK_n | with_reducible apply rngK_x | with_reducible apply rngK_r | with_reducible apply True.intro | with_reducible apply And.intro True.intro True.intro)
    | (fail_if_success with_reducible apply K_id); (fail_if_success with_reducible apply awp_id); first | omega | (simp only [go_sem, seval]; done)
    | fail)
      first | refine endK_r (by simp only [go_sem, seval] <;> eq_refl) (by simp only [go_sem, seval]) (by simp only [go_sem, seval]) ?_ rfl | refine endK_n (by simp only [go_sem, seval] <;> eq_refl) (by simp only [go_sem, seval]) (by simp only [go_sem, seval]) ?_ rfl
      simp only [pickS, if_pos h, go_sem, seval]
    · repeat' (first
    | ((first | with_reducible apply awp_sr5 | with_reducible apply awp_r5 | with_reducible apply awp_sd | with_reducible apply awp_d | with_reducible apply inlR_n5 | with_reducible apply inlR_r5); (· (first | exact Ctx.fn_ok hS | exact Ctx.rd_ok hS | assumption | exact True.intro)); iterate 2 (· (simp only [go_sem, seval] <;> eq_refl)))
    | (first | with_reducible apply awp_scp | with_reducible apply awp_sn | with_reducible apply awp_nop | with_reducible apply awp_ret | with_reducible apply awp_exit | with_reducible apply awp_block | with_reducible apply awp_seq | with_reducible apply seqK_n | with_reducible apply seqK_r | with_reducible apply seqK_x | with_reducible apply blkK_n | with_reducible apply blkK_r | with_reducible apply blkK_x)
    | (with_reducible apply blkK_y; (· first | rfl | decide))
    | (first | with_reducible apply backK_x | with_reducible apply backK_r | with_reducible apply asgK_n | with_reducible apply rngK_x | with_reducible apply rngK_r | with_reducible apply True.intro | with_reducible apply And.intro True.intro True.intro)
    | (fail_if_success with_reducible apply K_id); (fail_if_success with_reducible apply awp_id); first | omega | (simp only [go_sem, seval]; done)
    | fail)
      first | refine endK_r (by simp only [go_sem, seval] <;> eq_refl) (by simp only [go_sem, seval]) (by simp only [go_sem, seval]) ?_ rfl | refine endK_n (by simp only [go_sem, seval] <;> eq_refl) (by simp only [go_sem, seval]) (by simp only [go_sem, seval]) ?_ rfl
      simp only [pickS, if_neg h, go_sem, seval]
  · simp at h⟩
theorem pick05_fok : FOK Try.prog 47 sPick := ⟨of47, by
  intro args vc r h hv
  unfold sPick at h
  split at h
  · rename_i c n
    cases h
    obtain ⟨hc, hn⟩ := hv
    refine pcall_fn S0_ok _ Try.func47 ok47 nt47 (by simp) fun _ => ?_
    have hS := S0_ok
    unfold ac47 rv47
    repeat' (first
    | ((first | with_reducible apply awp_sr5 | with_reducible apply awp_r5 | with_reducible apply awp_sd | with_reducible apply awp_d | with_reducible apply inlR_n5 | with_reducible apply inlR_r5); (· (first | exact Ctx.fn_ok hS | exact Ctx.rd_ok hS | assumption | exact True.intro)); iterate 2 (· (simp only [go_sem, seval] <;> eq_refl)))
    | (first | with_reducible apply awp_scp | with_reducible apply awp_sn | with_reducible apply awp_nop | with_reducible apply awp_ret | with_reducible apply awp_exit | with_reducible apply awp_block | with_reducible apply awp_seq | with_reducible apply seqK_n | with_reducible apply seqK_r | with_reducible apply seqK_x | with_reducible apply blkK_n | with_reducible apply blkK_r | with_reducible apply blkK_x)
    | (with_reducible apply blkK_y; (· first | rfl | decide))
    | (first | with_reducible apply backK_x | with_reducible apply backK_r | with_reducible apply asgK_n | with_reducible apply rngK_x | with_reducible apply rngK_r | with_reducible apply True.intro | with_reducible apply And.intro True.intro True.intro)
    | (fail_if_success with_reducible apply K_id); (fail_if_success with_reducible apply awp_id); first | omega | (simp only [go_sem, seval]; done)
    | fail)
    refine awp_cp (c < 0) (by simp only [go_sem, seval] <;> eq_refl) (by first | simp only [Bool.decide_or, Bool.decide_and, decide_not] | simp) (fun h => ?_) (fun h => ?_)
    · repeat' (first
    | ((first | with_reducible apply awp_sr5 | with_reducible apply awp_r5 | with_reducible apply awp_sd | with_reducible apply awp_d | with_reducible apply inlR_n5 | with_reducible apply inlR_r5); (· (first | exact Ctx.fn_ok hS | exact Ctx.rd_ok hS | assumption | exact True.intro)); iterate 2 (· (simp only [go_sem, seval] <;> eq_refl)))
    | (first | with_reducible apply awp_scp | with_reducible apply awp_sn | with_reducible apply awp_nop | with_reducible apply awp_ret | with_reducible apply awp_exit | with_reducible apply awp_block | with_reducible apply awp_seq | with_reducible apply seqK_n | with_reducible apply seqK_r | with_reducible apply seqK_x | with_reducible apply blkK_n | with_reducible apply blkK_r | with_reducible apply blkK_x)
    | (with_reducible apply blkK_y; (· first | rfl | decide))
    | (first | with_reducible apply backK_x | with_reducible apply backK_r | with_reducible apply asgK_n | with_reducible apply rngK_x | with_reducible apply rngK_r | with_reducible apply True.intro | with_reducible apply And.intro True.intro True.intro)
    | (fail_if_success with_reducible apply K_id); (fail_if_success with_reducible apply awp_id); first | omega | (simp only [go_sem, seval]; done)
    | fail)
      first | refine endK_r (by simp only [go_sem, seval] <;> eq_refl) (by simp only [go_sem, seval]) (by simp only [go_sem, seval]) ?_ rfl | refine endK_n (by simp only [go_sem, seval] <;> eq_refl) (by simp only [go_sem, seval]) (by simp only [go_sem, seval]) ?_ rfl
      simp only [pickS, if_pos h, go_sem, seval]
    · repeat' (first
    | ((first | with_reducible apply awp_sr5 | with_reducible apply awp_r5 | with_reducible apply awp_sd | with_reducible apply awp_d | with_reducible apply inlR_n5 | with_reducible apply inlR_r5); (· (first | exact Ctx.fn_ok hS | exact Ctx.rd_ok hS | assumption | exact True.intro)); iterate 2 (· (simp only [go_sem, seval] <;> eq_refl)))
    | (first | with_reducible apply awp_scp | with_reducible apply awp_sn | with_reducible apply awp_nop | with_reducible apply awp_ret | with_reducible apply awp_exit | with_reducible apply awp_block | with_reducible apply awp_seq | with_reducible apply seqK_n | with_reducible apply seqK_r | with_reducible apply seqK_x | with_reducible apply blkK_n | with_reducible apply blkK_r | with_reducible apply blkK_x)
    | (with_reducible apply blkK_y; (· first | rfl | decide))
    | (first | with_reducible apply backK_x | with_reducible apply backK_r | with_reducible apply asgK_n | with_reducible apply rngK_x | with_reducible apply rngK_r | with_reducible apply True.intro | with_reducible apply And.intro True.intro True.intro)
    | (fail_if_success with_reducible apply K_id); (fail_if_success with_reducible apply awp_id); first | omega | (simp only [go_sem, seval]; done)
    | fail)
      first | refine endK_r (by simp only [go_sem, seval] <;> eq_refl) (by simp only [go_sem, seval]) (by simp only [go_sem, seval]) ?_ rfl | refine endK_n (by simp only [go_sem, seval] <;> eq_refl) (by simp only [go_sem, seval]) (by simp only [go_sem, seval]) ?_ rfl
      simp only [pickS, if_neg h, go_sem, seval]
  · simp at h⟩

theorem pick_bd {c n : Int} (hn : 0 < n) : 0 ≤ pickS c n ∧ pickS c n < n := by
  unfold pickS
  split
  · rw [Int.tmod_eq_emod_of_nonneg (by omega)]
    exact ⟨Int.emod_nonneg _ (by omega), Int.emod_lt_of_pos _ hn⟩
  · rw [Int.tmod_eq_emod_of_nonneg (by omega)]
    exact ⟨Int.emod_nonneg _ (by omega), Int.emod_lt_of_pos _ hn⟩

/-- A story. -/
structure Sty where
  drift : Int
  start : Int
  rates : List Int
  rd : List Rd3
  tol : Int
  rate : Int
  first : Int
  steps : List Int
  sm : List Sm
def row1 (x : Int) : List AV := [.i x]
def dec1 : List AV → Int
  | [.v (.int _ a)] => a
  | _ => 0
theorem dec1_row1 (R : List Int) : (R.map row1).map dec1 = R := by
  induction R with
  | nil => rfl
  | cons r R ih => rw [List.map_cons, List.map_cons, ih]; rfl
/-- Go's integers. -/
structure Sty.In (x : Sty) : Prop where
  drift : inI x.drift
  start : inI x.start
  rates : ∀ r ∈ x.rates, inI r
  rd : ∀ r ∈ x.rd, inI r.1 ∧ inI r.2.1 ∧ inI r.2.2
  tol : inI x.tol
  rate : inI x.rate
  first : inI x.first
  steps : ∀ r ∈ x.steps, inI r
  sm : ∀ r ∈ x.sm, inI r.1 ∧ inI r.2
def stCells (x : Sty) (f1 f2 f3 f4 : Bool) (z1 z2 z3 z4 : List AV) : List AV := [.i x.drift, .i x.start, .sl 1 f1 (x.rates.map row1) z1, .sl 3 f2 (x.rd.map row3) z2, .i x.tol, .i x.rate, .i x.first, .sl 1 f3 (x.steps.map row1) z3, .sl 2 f4 (x.sm.map row2) z4]
def sTol : Spec
  | [.agg [_, _, _, _, .v (.int .i64 c), _, _, _, _]] => some (inI c, .i (pickS c 31))
  | _ => none
def sRate : Spec
  | [.agg [_, _, _, _, _, .v (.int .i64 c), _, _, _]] => some (inI c, .i (pickS c 21))
  | _ => none
def T24 : List (Nat × Spec) := [(32, sPick)]
theorem T24_ok : TabOK Try.prog (tabOf T24) := tab_cons pick24_fok tab_nil
theorem tol_ok (x : Sty) (f1 f2 f3 f4 : Bool) (z1 z2 z3 z4 : List AV) (hi : inI x.tol) : PCall Try.prog 34 [.agg (stCells x f1 f2 f3 f4 z1 z2 z3 z4)] (.i (pickS x.tol 31)) := by
  refine pcall_fn T24_ok _ Try.func34 ok34 nt34 (by simp) fun _ => ?_
  have hS := T24_ok
  unfold ac34 rv34
  simp only [stCells]
  repeat' (first
    | ((first | with_reducible apply awp_sr5 | with_reducible apply awp_r5 | with_reducible apply awp_sd | with_reducible apply awp_d | with_reducible apply inlR_n5 | with_reducible apply inlR_r5); (· (first | exact Ctx.fn_ok hS | exact Ctx.rd_ok hS | assumption | exact True.intro)); iterate 2 (· (simp only [go_sem, seval, Am.T24, Am.sPick, Am.inI] <;> eq_refl)))
    | (first | with_reducible apply awp_scp | with_reducible apply awp_sn | with_reducible apply awp_nop | with_reducible apply awp_ret | with_reducible apply awp_exit | with_reducible apply awp_block | with_reducible apply awp_seq | with_reducible apply seqK_n | with_reducible apply seqK_r | with_reducible apply seqK_x | with_reducible apply blkK_n | with_reducible apply blkK_r | with_reducible apply blkK_x)
    | (with_reducible apply blkK_y; (· first | rfl | decide))
    | (first | with_reducible apply backK_x | with_reducible apply backK_r | with_reducible apply asgK_n | with_reducible apply rngK_x | with_reducible apply rngK_r | with_reducible apply True.intro | with_reducible apply And.intro True.intro True.intro)
    | (fail_if_success with_reducible apply K_id); (fail_if_success with_reducible apply awp_id); first | omega | (simp only [go_sem, seval, Am.T24, Am.sPick, Am.inI]; done)
    | fail)
  first | refine endK_r (by simp only [go_sem, seval] <;> eq_refl) (by simp only [go_sem, seval]) (by simp only [go_sem, seval]) ?_ rfl | refine endK_n (by simp only [go_sem, seval] <;> eq_refl) (by simp only [go_sem, seval]) (by simp only [go_sem, seval]) ?_ rfl
  simp only [go_sem, seval]
theorem rate_ok (x : Sty) (f1 f2 f3 f4 : Bool) (z1 z2 z3 z4 : List AV) (hi : inI x.rate) : PCall Try.prog 35 [.agg (stCells x f1 f2 f3 f4 z1 z2 z3 z4)] (.i (pickS x.rate 21)) := by
  refine pcall_fn T24_ok _ Try.func35 ok35 nt35 (by simp) fun _ => ?_
  have hS := T24_ok
  unfold ac35 rv35
  simp only [stCells]
  repeat' (first
    | ((first | with_reducible apply awp_sr5 | with_reducible apply awp_r5 | with_reducible apply awp_sd | with_reducible apply awp_d | with_reducible apply inlR_n5 | with_reducible apply inlR_r5); (· (first | exact Ctx.fn_ok hS | exact Ctx.rd_ok hS | assumption | exact True.intro)); iterate 2 (· (simp only [go_sem, seval, Am.T24, Am.sPick, Am.inI] <;> eq_refl)))
    | (first | with_reducible apply awp_scp | with_reducible apply awp_sn | with_reducible apply awp_nop | with_reducible apply awp_ret | with_reducible apply awp_exit | with_reducible apply awp_block | with_reducible apply awp_seq | with_reducible apply seqK_n | with_reducible apply seqK_r | with_reducible apply seqK_x | with_reducible apply blkK_n | with_reducible apply blkK_r | with_reducible apply blkK_x)
    | (with_reducible apply blkK_y; (· first | rfl | decide))
    | (first | with_reducible apply backK_x | with_reducible apply backK_r | with_reducible apply asgK_n | with_reducible apply rngK_x | with_reducible apply rngK_r | with_reducible apply True.intro | with_reducible apply And.intro True.intro True.intro)
    | (fail_if_success with_reducible apply K_id); (fail_if_success with_reducible apply awp_id); first | omega | (simp only [go_sem, seval, Am.T24, Am.sPick, Am.inI]; done)
    | fail)
  first | refine endK_r (by simp only [go_sem, seval] <;> eq_refl) (by simp only [go_sem, seval]) (by simp only [go_sem, seval]) ?_ rfl | refine endK_n (by simp only [go_sem, seval] <;> eq_refl) (by simp only [go_sem, seval]) (by simp only [go_sem, seval]) ?_ rfl
  simp only [go_sem, seval]

/-- What a course shows: its sum. -/
def shSum (d t : Int) : Nat → List Int → Int
  | _, [] => 0
  | i, r :: rs => if i < 20 ∧ 100 * (i : Int) < t then (pickS r (2 * d + 1) - d) * min (t - 100 * i) 100 + shSum d t (i + 1) rs else 0
def shownS (drift start : Int) (rates : List Int) (t : Int) : Int := pickS start 1000 + (shSum (pickS drift 101) t 0 rates + 1000 * t).tdiv 1000

theorem step_bd {d p m : Int} (hd : 0 ≤ d ∧ d ≤ 100) (hp : 0 ≤ p ∧ p < 2 * d + 1) (hm : 0 ≤ m ∧ m ≤ 100) : -10000 ≤ (p - d) * m ∧ (p - d) * m ≤ 10000 := by
  have h1 : -100 ≤ p - d ∧ p - d ≤ 100 := by omega
  generalize p - d = q at h1
  constructor
  · calc (-10000 : Int) ≤ (-100) * m := by omega
      _ ≤ q * m := Int.mul_le_mul_of_nonneg_right h1.1 hm.1
  · calc q * m ≤ 100 * m := Int.mul_le_mul_of_nonneg_right h1.2 hm.1
      _ ≤ 10000 := by omega

def T05 : List (Nat × Spec) := [(47, sPick)]
theorem T05_ok : TabOK Try.prog (tabOf T05) := tab_cons pick05_fok tab_nil

theorem shown_ok (drift start : Int) (rates : List Int) (t : Int) (f : Bool) (z : List AV) (h1 : inI drift) (h2 : inI start) (h3 : ∀ r ∈ rates, inI r) (h4 : 0 ≤ t ∧ t ≤ 100000) : PCall Try.prog 36 [.i drift, .i start, .sl 1 f (rates.map row1) z, .i t] (.i (shownS drift start rates t)) := by
  refine pcall_fn T05_ok _ Try.func36 ok36 nt36 (by simp) fun _ => ?_
  have hS := T05_ok
  unfold ac36 rv36
  have hd := @pick_bd drift 101 (by omega)
  generalize hdd : pickS drift 101 = d at hd
  repeat' (first
    | ((first | with_reducible apply awp_sr5 | with_reducible apply awp_r5 | with_reducible apply awp_sd | with_reducible apply awp_d | with_reducible apply inlR_n5 | with_reducible apply inlR_r5); (· (first | exact Ctx.fn_ok hS | exact Ctx.rd_ok hS | assumption | exact True.intro)); iterate 2 (· (simp only [go_sem, seval, Am.T05, Am.sPick, Am.inI, hdd] <;> eq_refl)))
    | (first | with_reducible apply awp_scp | with_reducible apply awp_sn | with_reducible apply awp_nop | with_reducible apply awp_ret | with_reducible apply awp_exit | with_reducible apply awp_block | with_reducible apply awp_seq | with_reducible apply seqK_n | with_reducible apply seqK_r | with_reducible apply seqK_x | with_reducible apply blkK_n | with_reducible apply blkK_r | with_reducible apply blkK_x)
    | (with_reducible apply blkK_y; (· first | rfl | decide))
    | (first | with_reducible apply backK_x | with_reducible apply backK_r | with_reducible apply asgK_n | with_reducible apply rngK_x | with_reducible apply rngK_r | with_reducible apply True.intro | with_reducible apply And.intro True.intro True.intro)
    | (fail_if_success with_reducible apply K_id); (fail_if_success with_reducible apply awp_id); first | omega | (simp only [go_sem, seval, Am.T05, Am.sPick, Am.inI, hdd]; done)
    | fail)
  refine awp_loop (fun x : Nat × Nat × Int => ⟨[(11, .i x.1), (10, .i x.2.2), (9, .i d), (3, .i t), (2, .sl 1 f (rates.map row1) z), (1, .i start)], [], x.2.1⟩)
    (fun x => x.1 ≤ rates.length ∧ x.1 ≤ 20 ∧ -10000 * (x.1 : Int) ≤ x.2.2 ∧ x.2.2 ≤ 10000 * x.1 ∧ shSum d t 0 rates = x.2.2 + shSum d t x.1 (rates.drop x.1)) (fun x => rates.length - x.1) (0, 50, 0) ?_ ?_ ?_
  · simp
  · refine Le.of ?_ ?_ (by simp) <;> (simp only [go_sem, seval]; try simp)
  · rintro ⟨i, c, s⟩ ⟨hi, hi20, hs1, hs2, hs⟩
    simp only at hi hi20 hs1 hs2 hs
    repeat' (first
    | ((first | with_reducible apply awp_sr5 | with_reducible apply awp_r5 | with_reducible apply awp_sd | with_reducible apply awp_d | with_reducible apply inlR_n5 | with_reducible apply inlR_r5); (· (first | exact Ctx.fn_ok hS | exact Ctx.rd_ok hS | assumption | exact True.intro)); iterate 2 (· (simp only [go_sem, seval] <;> eq_refl)))
    | (first | with_reducible apply awp_scp | with_reducible apply awp_sn | with_reducible apply awp_nop | with_reducible apply awp_ret | with_reducible apply awp_exit | with_reducible apply awp_block | with_reducible apply awp_seq | with_reducible apply seqK_n | with_reducible apply seqK_r | with_reducible apply seqK_x | with_reducible apply blkK_n | with_reducible apply blkK_r | with_reducible apply blkK_x)
    | (with_reducible apply blkK_y; (· first | rfl | decide))
    | (first | with_reducible apply backK_x | with_reducible apply backK_r | with_reducible apply asgK_n | with_reducible apply rngK_x | with_reducible apply rngK_r | with_reducible apply True.intro | with_reducible apply And.intro True.intro True.intro)
    | (fail_if_success with_reducible apply K_id); (fail_if_success with_reducible apply awp_id); first | omega | (simp only [go_sem, seval]; done)
    | fail)
    refine awp_cp (((i : Int) < rates.length ∧ (i : Int) < 20) ∧ 100 * (i : Int) < t) (by simp only [go_sem, seval] <;> eq_refl) (by first | simp only [Bool.decide_or, Bool.decide_and, decide_not] | simp) (fun hc => ?_) (fun hc => ?_)
    · have hi' : i < rates.length := by omega
      obtain ⟨r, hr⟩ : ∃ r, rates[i] = r := ⟨_, rfl⟩
      have hrow : rowAt (rates.map row1) z i = [.i r] := by
        simp [rowAt, List.getD_eq_getElem?_getD, hi', hr, row1]
      have hdrop : rates.drop i = r :: rates.drop (i + 1) := by rw [List.drop_eq_getElem_cons hi', hr]
      have hri : inI r := h3 r (by rw [← hr]; exact List.getElem_mem _)
      rw [hdrop] at hs
      simp only [shSum] at hs
      rw [if_pos (by omega)] at hs
      have hp := @pick_bd r (2 * d + 1) (by omega)
      have hsb := @step_bd d (pickS r (2 * d + 1)) (min (t - 100 * i) 100) (by omega) hp (by omega)
      repeat' (first
    | ((first | with_reducible apply awp_sr5 | with_reducible apply awp_r5 | with_reducible apply awp_sd | with_reducible apply awp_d | with_reducible apply inlR_n5 | with_reducible apply inlR_r5); (· (first | exact Ctx.fn_ok hS | exact Ctx.rd_ok hS | assumption | exact True.intro)); iterate 2 (· (simp only [go_sem, seval, hrow, Am.T05, Am.sPick, Am.inI] <;> eq_refl)))
    | (first | with_reducible apply awp_scp | with_reducible apply awp_sn | with_reducible apply awp_nop | with_reducible apply awp_ret | with_reducible apply awp_exit | with_reducible apply awp_block | with_reducible apply awp_seq | with_reducible apply seqK_n | with_reducible apply seqK_r | with_reducible apply seqK_x | with_reducible apply blkK_n | with_reducible apply blkK_r | with_reducible apply blkK_x)
    | (with_reducible apply blkK_y; (· first | rfl | decide))
    | (first | with_reducible apply backK_x | with_reducible apply backK_r | with_reducible apply asgK_n | with_reducible apply rngK_x | with_reducible apply rngK_r | with_reducible apply True.intro | with_reducible apply And.intro True.intro True.intro)
    | (fail_if_success with_reducible apply K_id); (fail_if_success with_reducible apply awp_id); first | omega | (simp only [go_sem, seval, hrow, Am.T05, Am.sPick, Am.inI]; done)
    | fail)
      refine backK_n (i + 1, c + 50, s + (pickS r (2 * d + 1) - d) * min (t - 100 * i) 100) ⟨by show i + 1 ≤ _; omega, by show i + 1 ≤ 20; omega, ?_, ?_, ?_⟩ (by show rates.length - (i + 1) < rates.length - i; omega) (Le.of ?_ ?_ ?_)
      · dsimp only; omega
      · dsimp only; omega
      · rw [hs]; show _ = _ + _ + shSum d t (i + 1) (rates.drop (i + 1)); omega
      · simp only [go_sem, seval] <;> simp
      · simp only [go_sem, seval]
      · simp
    · have h0 : shSum d t i (rates.drop i) = 0 := by
        cases hr : rates.drop i with
        | nil => rfl
        | cons r rs =>
          have hl : i < rates.length := by
            have := congrArg List.length hr
            simp at this
            omega
          simp only [shSum]
          rw [if_neg (by omega)]
      rw [h0] at hs
      have hps := @pick_bd start 1000 (by omega)
      have hq := Int.tdiv_eq_ediv_of_nonneg (a := s + 1000 * t) (b := 1000)
      have hq2 : -1000000 ≤ (s + 1000 * t).tdiv 1000 ∧ (s + 1000 * t).tdiv 1000 ≤ 1000000 := by
        constructor
        · rcases Int.le_total 0 (s + 1000 * t) with h | h
          · rw [Int.tdiv_eq_ediv_of_nonneg h]; omega
          · have := Int.tdiv_eq_ediv_of_nonneg (a := -(s + 1000 * t)) (b := 1000) (by omega)
            rw [Int.neg_tdiv] at this
            omega
        · rcases Int.le_total 0 (s + 1000 * t) with h | h
          · rw [Int.tdiv_eq_ediv_of_nonneg h]; omega
          · have := Int.tdiv_eq_ediv_of_nonneg (a := -(s + 1000 * t)) (b := 1000) (by omega)
            rw [Int.neg_tdiv] at this
            omega
      repeat' (first
    | ((first | with_reducible apply awp_sr5 | with_reducible apply awp_r5 | with_reducible apply awp_sd | with_reducible apply awp_d | with_reducible apply inlR_n5 | with_reducible apply inlR_r5); (· (first | exact Ctx.fn_ok hS | exact Ctx.rd_ok hS | assumption | exact True.intro)); iterate 2 (· (simp only [go_sem, seval, Am.T05, Am.sPick, Am.inI] <;> eq_refl)))
    | (first | with_reducible apply awp_scp | with_reducible apply awp_sn | with_reducible apply awp_nop | with_reducible apply awp_ret | with_reducible apply awp_exit | with_reducible apply awp_block | with_reducible apply awp_seq | with_reducible apply seqK_n | with_reducible apply seqK_r | with_reducible apply seqK_x | with_reducible apply blkK_n | with_reducible apply blkK_r | with_reducible apply blkK_x)
    | (with_reducible apply blkK_y; (· first | rfl | decide))
    | (first | with_reducible apply backK_x | with_reducible apply backK_r | with_reducible apply asgK_n | with_reducible apply rngK_x | with_reducible apply rngK_r | with_reducible apply True.intro | with_reducible apply And.intro True.intro True.intro)
    | (fail_if_success with_reducible apply K_id); (fail_if_success with_reducible apply awp_id); first | omega | (simp only [go_sem, seval, Am.T05, Am.sPick, Am.inI]; done)
    | fail)
      first | refine endK_r (by simp only [go_sem, seval] <;> eq_refl) (by simp only [go_sem, seval]) (by simp only [go_sem, seval]) ?_ rfl | refine endK_n (by simp only [go_sem, seval] <;> eq_refl) (by simp only [go_sem, seval]) (by simp only [go_sem, seval]) ?_ rfl
      simp only [shownS, hdd, hs, Int.add_zero, go_sem, seval]

def sShown : Spec
  | [.v (.int .i64 drift), .v (.int .i64 start), .sl y _ rows _, .v (.int .i64 t)] => some ((y = 1 ∨ rows = []) ∧ rows = (rows.map dec1).map row1 ∧ inI drift ∧ inI start ∧ (∀ r ∈ rows.map dec1, inI r) ∧ 0 ≤ t ∧ t ≤ 100000, .i (shownS drift start (rows.map dec1) t))
  | _ => none
theorem shown_fok : FOK Try.prog 36 sShown := ⟨of36, by
  intro args vc r h hv
  unfold sShown at h
  split at h
  · rename_i drift start y f rows zs t
    cases h
    obtain ⟨h1, h2, h3, h4, h5, h6⟩ := hv
    refine PCall.arg ?_ (shown_ok drift start (rows.map dec1) t f zs h3 h4 h5 h6)
    simp only [wkL, wk, and_true, true_and]
    exact ⟨h2, h1, fun h => h⟩
  · simp at h⟩

/-- The quantity of a story at a second. -/
def valStep (rate : Int) (steps : List Int) (v : Int) (i : Nat) : Int := v + pickS (steps.getD (i % steps.length) 0) (2 * pickS rate 21 + 1) - pickS rate 21
def valueS (rate first : Int) (steps : List Int) (t : Nat) : Int := (List.range (if steps.length = 0 then 0 else t)).foldl (valStep rate steps) (pickS first 2001 - 1000)
theorem fold_range_succ {α : Type} (f : α → Nat → α) (a : α) (n : Nat) : (List.range (n + 1)).foldl f a = f ((List.range n).foldl f a) n := by
  rw [List.range_succ, List.foldl_append]; rfl
theorem valStep_bd (rate : Int) (steps : List Int) (v : Int) (i : Nat) : v - 20 ≤ valStep rate steps v i ∧ valStep rate steps v i ≤ v + 20 := by
  have h1 := @pick_bd rate 21 (by omega)
  have h2 := @pick_bd (steps.getD (i % steps.length) 0) (2 * pickS rate 21 + 1) (by omega)
  unfold valStep
  omega
theorem rate_fok : FOK Try.prog 35 sRate := ⟨of35, by
  intro args vc r h hv
  unfold sRate at h
  split at h
  · cases h
    refine pcall_fn T24_ok _ Try.func35 ok35 nt35 (by simp) fun _ => ?_
    have hS := T24_ok
    unfold ac35 rv35
    repeat' (first
    | ((first | with_reducible apply awp_sr5 | with_reducible apply awp_r5 | with_reducible apply awp_sd | with_reducible apply awp_d | with_reducible apply inlR_n5 | with_reducible apply inlR_r5); (· (first | exact Ctx.fn_ok hS | exact Ctx.rd_ok hS | assumption | exact True.intro)); iterate 2 (· (simp only [go_sem, seval, Am.T24, Am.sPick, Am.inI] <;> eq_refl)))
    | (first | with_reducible apply awp_scp | with_reducible apply awp_sn | with_reducible apply awp_nop | with_reducible apply awp_ret | with_reducible apply awp_exit | with_reducible apply awp_block | with_reducible apply awp_seq | with_reducible apply seqK_n | with_reducible apply seqK_r | with_reducible apply seqK_x | with_reducible apply blkK_n | with_reducible apply blkK_r | with_reducible apply blkK_x)
    | (with_reducible apply blkK_y; (· first | rfl | decide))
    | (first | with_reducible apply backK_x | with_reducible apply backK_r | with_reducible apply asgK_n | with_reducible apply rngK_x | with_reducible apply rngK_r | with_reducible apply True.intro | with_reducible apply And.intro True.intro True.intro)
    | (fail_if_success with_reducible apply K_id); (fail_if_success with_reducible apply awp_id); first | omega | (simp only [go_sem, seval, Am.T24, Am.sPick, Am.inI]; done)
    | fail)
    first | refine endK_r (by simp only [go_sem, seval] <;> eq_refl) (by simp only [go_sem, seval]) (by simp only [go_sem, seval]) ?_ rfl | refine endK_n (by simp only [go_sem, seval] <;> eq_refl) (by simp only [go_sem, seval]) (by simp only [go_sem, seval]) ?_ rfl
    simp only [go_sem, seval]
  · simp at h⟩
theorem tol_fok : FOK Try.prog 34 sTol := ⟨of34, by
  intro args vc r h hv
  unfold sTol at h
  split at h
  · cases h
    refine pcall_fn T24_ok _ Try.func34 ok34 nt34 (by simp) fun _ => ?_
    have hS := T24_ok
    unfold ac34 rv34
    repeat' (first
    | ((first | with_reducible apply awp_sr5 | with_reducible apply awp_r5 | with_reducible apply awp_sd | with_reducible apply awp_d | with_reducible apply inlR_n5 | with_reducible apply inlR_r5); (· (first | exact Ctx.fn_ok hS | exact Ctx.rd_ok hS | assumption | exact True.intro)); iterate 2 (· (simp only [go_sem, seval, Am.T24, Am.sPick, Am.inI] <;> eq_refl)))
    | (first | with_reducible apply awp_scp | with_reducible apply awp_sn | with_reducible apply awp_nop | with_reducible apply awp_ret | with_reducible apply awp_exit | with_reducible apply awp_block | with_reducible apply awp_seq | with_reducible apply seqK_n | with_reducible apply seqK_r | with_reducible apply seqK_x | with_reducible apply blkK_n | with_reducible apply blkK_r | with_reducible apply blkK_x)
    | (with_reducible apply blkK_y; (· first | rfl | decide))
    | (first | with_reducible apply backK_x | with_reducible apply backK_r | with_reducible apply asgK_n | with_reducible apply rngK_x | with_reducible apply rngK_r | with_reducible apply True.intro | with_reducible apply And.intro True.intro True.intro)
    | (fail_if_success with_reducible apply K_id); (fail_if_success with_reducible apply awp_id); first | omega | (simp only [go_sem, seval, Am.T24, Am.sPick, Am.inI]; done)
    | fail)
    first | refine endK_r (by simp only [go_sem, seval] <;> eq_refl) (by simp only [go_sem, seval]) (by simp only [go_sem, seval]) ?_ rfl | refine endK_n (by simp only [go_sem, seval] <;> eq_refl) (by simp only [go_sem, seval]) (by simp only [go_sem, seval]) ?_ rfl
    simp only [go_sem, seval]
  · simp at h⟩
def T24b : List (Nat × Spec) := [(32, sPick), (35, sRate)]
theorem T24b_ok : TabOK Try.prog (tabOf T24b) := tab_cons pick24_fok (tab_cons rate_fok tab_nil)

theorem value_ok (dr sr tol : Int) (rates : List Int) (rd : List Rd3) (sm : List Sm) (g1 g2 g4 : Bool) (y1 y2 y4 : List AV) (rate first : Int) (steps : List Int) (f : Bool) (z : List AV) (t : Int) (h1 : inI rate) (h2 : inI first) (h3 : ∀ r ∈ steps, inI r) (ht : 0 ≤ t ∧ t ≤ 100000) :
    PCall Try.prog 28 [.agg [.i dr, .i sr, .sl 1 g1 (rates.map row1) y1, .sl 3 g2 (rd.map row3) y2, .i tol, .i rate, .i first, .sl 1 f (steps.map row1) z, .sl 2 g4 (sm.map row2) y4], .i t] (.i (valueS rate first steps t.toNat)) := by
  refine pcall_fn T24b_ok _ Try.func28 ok28 nt28 (by simp) fun _ => ?_
  have hS := T24b_ok
  unfold ac28 rv28
  have hf := @pick_bd first 2001 (by omega)
  have hr := @pick_bd rate 21 (by omega)
  repeat' (first
    | ((first | with_reducible apply awp_sr5 | with_reducible apply awp_r5 | with_reducible apply awp_sd | with_reducible apply awp_d | with_reducible apply inlR_n5 | with_reducible apply inlR_r5); (· (first | exact Ctx.fn_ok hS | exact Ctx.rd_ok hS | assumption | exact True.intro)); iterate 2 (· (simp only [go_sem, seval, Am.T24b, Am.sPick, Am.sRate, Am.inI] <;> eq_refl)))
    | (first | with_reducible apply awp_scp | with_reducible apply awp_sn | with_reducible apply awp_nop | with_reducible apply awp_ret | with_reducible apply awp_exit | with_reducible apply awp_block | with_reducible apply awp_seq | with_reducible apply seqK_n | with_reducible apply seqK_r | with_reducible apply seqK_x | with_reducible apply blkK_n | with_reducible apply blkK_r | with_reducible apply blkK_x)
    | (with_reducible apply blkK_y; (· first | rfl | decide))
    | (first | with_reducible apply backK_x | with_reducible apply backK_r | with_reducible apply asgK_n | with_reducible apply rngK_x | with_reducible apply rngK_r | with_reducible apply True.intro | with_reducible apply And.intro True.intro True.intro)
    | (fail_if_success with_reducible apply K_id); (fail_if_success with_reducible apply awp_id); first | omega | (simp only [go_sem, seval, Am.T24b, Am.sPick, Am.sRate, Am.inI]; done)
    | fail)
  refine awp_loop (fun x : Nat × Nat × Int => ⟨[(7, .i x.1), (6, .i (pickS rate 21)), (5, .i x.2.2), (1, .i t), (2, .box (0, 1) 0)],
      [(.c (0, 1) 0, .i dr), (.c (0, 1) 1, .i sr), (.c (0, 1) 2, .sl 1 g1 (rates.map row1) y1), (.c (0, 1) 3, .sl 3 g2 (rd.map row3) y2), (.c (0, 1) 4, .i tol), (.c (0, 1) 5, .i rate), (.c (0, 1) 6, .i first), (.c (0, 1) 7, .sl 1 f (steps.map row1) z), (.c (0, 1) 8, .sl 2 g4 (sm.map row2) y4)], x.2.1⟩)
    (fun x => x.1 ≤ t.toNat ∧ (steps.length = 0 → x.1 = 0) ∧ -1000 - 20 * (x.1 : Int) ≤ x.2.2 ∧ x.2.2 ≤ 1000 + 20 * (x.1 : Int) ∧ x.2.2 = (List.range x.1).foldl (valStep rate steps) (pickS first 2001 - 1000)) (fun x => t.toNat - x.1) (0, 50, pickS first 2001 - 1000) ?_ ?_ ?_
  · simp; omega
  · refine Le.of ?_ ?_ (by simp) <;> (simp only [go_sem, seval]; try simp)
  · rintro ⟨i, c, v⟩ ⟨hi, hz, hv1, hv2, hv⟩
    simp only at hi hz hv1 hv2 hv
    repeat' (first
    | ((first | with_reducible apply awp_sr5 | with_reducible apply awp_r5 | with_reducible apply awp_sd | with_reducible apply awp_d | with_reducible apply inlR_n5 | with_reducible apply inlR_r5); (· (first | exact Ctx.fn_ok hS | exact Ctx.rd_ok hS | assumption | exact True.intro)); iterate 2 (· (simp only [go_sem, seval] <;> eq_refl)))
    | (first | with_reducible apply awp_scp | with_reducible apply awp_sn | with_reducible apply awp_nop | with_reducible apply awp_ret | with_reducible apply awp_exit | with_reducible apply awp_block | with_reducible apply awp_seq | with_reducible apply seqK_n | with_reducible apply seqK_r | with_reducible apply seqK_x | with_reducible apply blkK_n | with_reducible apply blkK_r | with_reducible apply blkK_x)
    | (with_reducible apply blkK_y; (· first | rfl | decide))
    | (first | with_reducible apply backK_x | with_reducible apply backK_r | with_reducible apply asgK_n | with_reducible apply rngK_x | with_reducible apply rngK_r | with_reducible apply True.intro | with_reducible apply And.intro True.intro True.intro)
    | (fail_if_success with_reducible apply K_id); (fail_if_success with_reducible apply awp_id); first | omega | (simp only [go_sem, seval]; done)
    | fail)
    refine awp_cp ((i : Int) < t ∧ (0 : Int) < steps.length) (by simp only [go_sem, seval] <;> eq_refl) (by first | simp only [Bool.decide_or, Bool.decide_and, decide_not] | simp) (fun hc => ?_) (fun hc => ?_)
    · have hi' : i % steps.length < steps.length := Nat.mod_lt _ (by omega)
      have hrow : rowAt (steps.map row1) z ((i : Int).tmod steps.length).toNat = [.i (steps.getD (i % steps.length) 0)] := by
        rw [show ((i : Int).tmod steps.length).toNat = i % steps.length from by rw [← Int.ofNat_tmod]; rfl]
        simp [rowAt, List.getD_eq_getElem?_getD, hi', row1]
      have hm : 0 ≤ (i : Int).tmod steps.length ∧ (i : Int).tmod steps.length < steps.length := by
        rw [← Int.ofNat_tmod]; omega
      have hri : inI (steps.getD (i % steps.length) 0) := by
        rw [List.getD_eq_getElem?_getD, List.getElem?_eq_getElem hi']
        exact h3 _ (List.getElem_mem _)
      have hb := valStep_bd rate steps v i
      have h2 := @pick_bd (steps.getD (i % steps.length) 0) (2 * pickS rate 21 + 1) (by omega)
      simp only [valStep] at hb
      generalize hg : steps.getD (i % steps.length) 0 = g at *
      repeat' (first
    | ((first | with_reducible apply awp_sr5 | with_reducible apply awp_r5 | with_reducible apply awp_sd | with_reducible apply awp_d | with_reducible apply inlR_n5 | with_reducible apply inlR_r5); (· (first | exact Ctx.fn_ok hS | exact Ctx.rd_ok hS | assumption | exact True.intro)); iterate 2 (· (simp only [go_sem, seval, hrow, Am.T24b, Am.sPick, Am.inI] <;> eq_refl)))
    | (first | with_reducible apply awp_scp | with_reducible apply awp_sn | with_reducible apply awp_nop | with_reducible apply awp_ret | with_reducible apply awp_exit | with_reducible apply awp_block | with_reducible apply awp_seq | with_reducible apply seqK_n | with_reducible apply seqK_r | with_reducible apply seqK_x | with_reducible apply blkK_n | with_reducible apply blkK_r | with_reducible apply blkK_x)
    | (with_reducible apply blkK_y; (· first | rfl | decide))
    | (first | with_reducible apply backK_x | with_reducible apply backK_r | with_reducible apply asgK_n | with_reducible apply rngK_x | with_reducible apply rngK_r | with_reducible apply True.intro | with_reducible apply And.intro True.intro True.intro)
    | (fail_if_success with_reducible apply K_id); (fail_if_success with_reducible apply awp_id); first | omega | (simp only [go_sem, seval, hrow, Am.T24b, Am.sPick, Am.inI]; done)
    | fail)
      refine backK_n (i + 1, c + 50, v + pickS g (2 * pickS rate 21 + 1) - pickS rate 21) ⟨by dsimp only; omega, by dsimp only; omega, by dsimp only; omega, by dsimp only; omega, ?_⟩ (by show t.toNat - (i + 1) < t.toNat - i; omega) (Le.of ?_ ?_ ?_)
      · dsimp only
        rw [fold_range_succ, ← hv]
        simp only [valStep, hg]
      · simp only [go_sem, seval] <;> simp
      · simp only [go_sem, seval]
      · simp
    · have : v = valueS rate first steps t.toNat := by
        rw [hv, valueS]
        congr 1
        split
        · rename_i h0
          rw [hz h0]
        · congr 1
          omega
      repeat' (first
    | ((first | with_reducible apply awp_sr5 | with_reducible apply awp_r5 | with_reducible apply awp_sd | with_reducible apply awp_d | with_reducible apply inlR_n5 | with_reducible apply inlR_r5); (· (first | exact Ctx.fn_ok hS | exact Ctx.rd_ok hS | assumption | exact True.intro)); iterate 2 (· (simp only [go_sem, seval] <;> eq_refl)))
    | (first | with_reducible apply awp_scp | with_reducible apply awp_sn | with_reducible apply awp_nop | with_reducible apply awp_ret | with_reducible apply awp_exit | with_reducible apply awp_block | with_reducible apply awp_seq | with_reducible apply seqK_n | with_reducible apply seqK_r | with_reducible apply seqK_x | with_reducible apply blkK_n | with_reducible apply blkK_r | with_reducible apply blkK_x)
    | (with_reducible apply blkK_y; (· first | rfl | decide))
    | (first | with_reducible apply backK_x | with_reducible apply backK_r | with_reducible apply asgK_n | with_reducible apply rngK_x | with_reducible apply rngK_r | with_reducible apply True.intro | with_reducible apply And.intro True.intro True.intro)
    | (fail_if_success with_reducible apply K_id); (fail_if_success with_reducible apply awp_id); first | omega | (simp only [go_sem, seval]; done)
    | fail)
      first | refine endK_r (by simp only [go_sem, seval] <;> eq_refl) (by simp only [go_sem, seval]) (by simp only [go_sem, seval]) ?_ rfl | refine endK_n (by simp only [go_sem, seval] <;> eq_refl) (by simp only [go_sem, seval]) (by simp only [go_sem, seval]) ?_ rfl
      simp only [this, go_sem, seval]

def sValue : Spec
  | [.agg [.v (.int .i64 dr), .v (.int .i64 sr), .sl y1 _ rows1 _, .sl y2 _ rows2 _, .v (.int .i64 tol), .v (.int .i64 rate), .v (.int .i64 first), .sl y3 _ rows3 _, .sl y4 _ rows4 _], .v (.int .i64 t)] =>
    some (((y1 = 1 ∨ rows1 = []) ∧ (y2 = 3 ∨ rows2 = []) ∧ (y3 = 1 ∨ rows3 = []) ∧ (y4 = 2 ∨ rows4 = [])) ∧ rows1 = (rows1.map dec1).map row1 ∧ rows2 = (rows2.map dec3).map row3 ∧ rows3 = (rows3.map dec1).map row1 ∧ rows4 = (rows4.map dec2).map row2 ∧
      inI rate ∧ inI first ∧ (∀ r ∈ rows3.map dec1, inI r) ∧ 0 ≤ t ∧ t ≤ 100000, .i (valueS rate first (rows3.map dec1) t.toNat))
  | _ => none
theorem value_fok : FOK Try.prog 28 sValue := ⟨of28, by
  intro args vc r h hv
  unfold sValue at h
  split at h
  · rename_i dr sr y1 f1 rows1 z1 y2 f2 rows2 z2 tol rate first y3 f3 rows3 z3 y4 f4 rows4 z4 t
    cases h
    obtain ⟨⟨a1, a2, a3, a4⟩, b1, b2, b3, b4, h1, h2, h3, h4⟩ := hv
    refine PCall.arg ?_ (value_ok dr sr tol (rows1.map dec1) (rows2.map dec3) (rows4.map dec2) f1 f2 f4 z1 z2 z4 rate first (rows3.map dec1) f3 z3 t h1 h2 h3 h4)
    simp only [wkL, wk, and_true, true_and]
    exact ⟨⟨b1, a1, fun h => h⟩, ⟨b2, a2, fun h => h⟩, ⟨b3, a3, fun h => h⟩, b4, a4, fun h => h⟩
  · simp at h⟩
end Go.Proofs.Ytmmfbjmjhjmccaa.Am
