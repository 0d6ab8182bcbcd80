import Derived.Test.YtmmfbjmjhjmccaaP4
namespace Go.Proofs.Ytmmfbjmjhjmccaa.Am
open Go
attribute [local irreducible] awp seqK blkK backK endK inlK restK rngK asgK itK
set_option maxRecDepth 100000
set_option maxHeartbeats 8000000
set_option linter.unusedSimpArgs false
set_option linter.unusedVariables false
abbrev Sm := Int × Int
def row2 (r : Sm) : List AV := [.i r.1, .i r.2]
def dec2 : List AV → Sm
  | [.v (.int _ a), .v (.int _ b)] => (a, b)
  | _ => (0, 0)
theorem dec2_row2 (R : List Sm) : (R.map row2).map dec2 = R := by
  induction R with
  | nil => rfl
  | cons r R ih => rw [List.map_cons, List.map_cons, ih]; rfl

/-- A gauge. -/
structure Ga where
  d : Int
  R : List Rd3
  tol : Int
  rate : Int
  S : List Sm
def chain2 : Int → List Sm → Bool
  | _, [] => true
  | l, (a, v) :: r => decide (l < a) && decide (a ≤ 10000000) && (decide (-1000000 ≤ v) && decide (v ≤ 1000000)) && chain2 a r
def validG (g : Ga) : Bool := chain2 (-1) g.S && (validC g.d g.R && (decide (0 ≤ g.tol) && decide (g.tol ≤ 1000)) && (decide (0 ≤ g.rate) && decide (g.rate ≤ 1000)) && decide ((g.S.length : Int) ≤ 24))

def S6 : List (Nat × Spec) := [(37, sIsIn), (38, sClockValid)]
theorem S6_ok : TabOK Try.prog (tabOf S6) := tab_cons isIn_fok (tab_cons clockValid_fok tab_nil)

theorem monValid_ok (g : Ga) (f1 f2 : Bool) (z1 z2 : List AV) (hlen : g.S.length ≤ 1000) : PCall Try.prog 16 [.agg [.i g.d, .sl 3 f1 (g.R.map row3) z1, .i g.tol, .i g.rate, .sl 2 f2 (g.S.map row2) z2]] (.b (validG g)) := by
  obtain ⟨d, R, tol, rate, S⟩ := g
  simp only at hlen
  refine pcall_fn S6_ok _ Try.func16 ok16 nt16 (by simp) fun hb => ?_
  have hS := S6_ok
  unfold ac16 rv16
  repeat' (first
    | ((first | with_reducible apply awp_sr5 | with_reducible apply awp_r5 | with_reducible apply awp_sd | with_reducible apply awp_d | with_reducible apply inlR_n5 | with_reducible apply inlR_r5); (· (first | exact Ctx.fn_ok hS | exact Ctx.rd_ok hS | assumption | exact True.intro)); iterate 2 (· (simp only [go_sem, seval] <;> eq_refl)))
    | (first | with_reducible apply awp_scp | with_reducible apply awp_sn | with_reducible apply awp_nop | with_reducible apply awp_ret | with_reducible apply awp_exit | with_reducible apply awp_block | with_reducible apply awp_seq | with_reducible apply seqK_n | with_reducible apply seqK_r | with_reducible apply seqK_x | with_reducible apply blkK_n | with_reducible apply blkK_r | with_reducible apply blkK_x)
    | (with_reducible apply blkK_y; (· first | rfl | decide))
    | (first | with_reducible apply backK_x | with_reducible apply backK_r | with_reducible apply asgK_n | with_reducible apply rngK_x | with_reducible apply rngK_r | with_reducible apply True.intro | with_reducible apply And.intro True.intro True.intro)
    | (fail_if_success with_reducible apply K_id); (fail_if_success with_reducible apply awp_id); first | omega | (simp only [go_sem, seval]; done)
    | fail)
  refine awp_loop (fun x : Nat × Int × Nat => ⟨[(9, .i x.1), (3, .i x.2.1), (8, .i S.length), (7, .sl 2 f2 (S.map row2) z2), (1, .box (0, 1) 0)],
    [(.c (0, 1) 0, .i d), (.c (0, 1) 1, .sl 3 f1 (R.map row3) z1), (.c (0, 1) 2, .i tol), (.c (0, 1) 3, .i rate), (.c (0, 1) 4, .sl 2 f2 (S.map row2) z2)], x.2.2⟩)
    (fun x => x.1 ≤ S.length ∧ chain2 (-1) S = chain2 x.2.1 (S.drop x.1)) (fun x => S.length - x.1) (0, -1, 3) ?_ ?_ ?_
  · simp
  · refine ⟨?_, ?_, ?_⟩
    · simp only [go_sem, seval] <;> simp
    · simp only [go_sem, seval]
    · simp
  · rintro ⟨k, l, c⟩ ⟨hk, hv⟩
    simp only at hk hv
    repeat' (first
    | ((first | with_reducible apply awp_sr5 | with_reducible apply awp_r5 | with_reducible apply awp_sd | with_reducible apply awp_d | with_reducible apply inlR_n5 | with_reducible apply inlR_r5); (· (first | exact Ctx.fn_ok hS | exact Ctx.rd_ok hS | assumption | exact True.intro)); iterate 2 (· (simp only [go_sem, seval] <;> eq_refl)))
    | (first | with_reducible apply awp_scp | with_reducible apply awp_sn | with_reducible apply awp_nop | with_reducible apply awp_ret | with_reducible apply awp_exit | with_reducible apply awp_block | with_reducible apply awp_seq | with_reducible apply seqK_n | with_reducible apply seqK_r | with_reducible apply seqK_x | with_reducible apply blkK_n | with_reducible apply blkK_r | with_reducible apply blkK_x)
    | (with_reducible apply blkK_y; (· first | rfl | decide))
    | (first | with_reducible apply backK_x | with_reducible apply backK_r | with_reducible apply asgK_n | with_reducible apply rngK_x | with_reducible apply rngK_r | with_reducible apply True.intro | with_reducible apply And.intro True.intro True.intro)
    | (fail_if_success with_reducible apply K_id); (fail_if_success with_reducible apply awp_id); first | omega | (simp only [go_sem, seval]; done)
    | fail)
    refine awp_cd (by simp only [go_sem, seval] <;> eq_refl) (fun h1 => ?_) (fun h1 => ?_)
    · have hk' : k < S.length := by omega
      obtain ⟨⟨a, v⟩, hr⟩ : ∃ r, S[k] = r := ⟨_, rfl⟩
      have hrow : rowAt (S.map row2) z2 k = [.i a, .i v] := by
        simp [rowAt, List.getD_eq_getElem?_getD, hk', hr, row2]
      have hdrop : S.drop k = (a, v) :: S.drop (k + 1) := by rw [List.drop_eq_getElem_cons hk', hr]
      repeat' (first
    | ((first | with_reducible apply awp_sr5 | with_reducible apply awp_r5 | with_reducible apply awp_sd | with_reducible apply awp_d | with_reducible apply inlR_n5 | with_reducible apply inlR_r5); (· (first | exact Ctx.fn_ok hS | exact Ctx.rd_ok hS | assumption | exact True.intro)); iterate 2 (· (simp only [go_sem, seval, hrow, Am.S6, Am.sIsIn] <;> eq_refl)))
    | (first | with_reducible apply awp_scp | with_reducible apply awp_sn | with_reducible apply awp_nop | with_reducible apply awp_ret | with_reducible apply awp_exit | with_reducible apply awp_block | with_reducible apply awp_seq | with_reducible apply seqK_n | with_reducible apply seqK_r | with_reducible apply seqK_x | with_reducible apply blkK_n | with_reducible apply blkK_r | with_reducible apply blkK_x)
    | (with_reducible apply blkK_y; (· first | rfl | decide))
    | (first | with_reducible apply backK_x | with_reducible apply backK_r | with_reducible apply asgK_n | with_reducible apply rngK_x | with_reducible apply rngK_r | with_reducible apply True.intro | with_reducible apply And.intro True.intro True.intro)
    | (fail_if_success with_reducible apply K_id); (fail_if_success with_reducible apply awp_id); first | omega | (simp only [go_sem, seval, hrow, Am.S6, Am.sIsIn]; done)
    | fail)
      refine awp_c (by simp only [go_sem, seval] <;> eq_refl) (fun h2 => ?_) (fun h2 => ?_)
      · repeat' (first
    | ((first | with_reducible apply awp_sr5 | with_reducible apply awp_r5 | with_reducible apply awp_sd | with_reducible apply awp_d | with_reducible apply inlR_n5 | with_reducible apply inlR_r5); (· (first | exact Ctx.fn_ok hS | exact Ctx.rd_ok hS | assumption | exact True.intro)); iterate 2 (· (simp only [go_sem, seval] <;> eq_refl)))
    | (first | with_reducible apply awp_scp | with_reducible apply awp_sn | with_reducible apply awp_nop | with_reducible apply awp_ret | with_reducible apply awp_exit | with_reducible apply awp_block | with_reducible apply awp_seq | with_reducible apply seqK_n | with_reducible apply seqK_r | with_reducible apply seqK_x | with_reducible apply blkK_n | with_reducible apply blkK_r | with_reducible apply blkK_x)
    | (with_reducible apply blkK_y; (· first | rfl | decide))
    | (first | with_reducible apply backK_x | with_reducible apply backK_r | with_reducible apply asgK_n | with_reducible apply rngK_x | with_reducible apply rngK_r | with_reducible apply True.intro | with_reducible apply And.intro True.intro True.intro)
    | (fail_if_success with_reducible apply K_id); (fail_if_success with_reducible apply awp_id); first | omega | (simp only [go_sem, seval]; done)
    | fail)
        first | refine endK_r (by simp only [go_sem, seval] <;> eq_refl) (by simp only [go_sem, seval]) (by simp only [go_sem, seval]) ?_ rfl | refine endK_n (by simp only [go_sem, seval] <;> eq_refl) (by simp only [go_sem, seval]) (by simp only [go_sem, seval]) ?_ rfl
        have : chain2 l (S.drop k) = false := by
          rw [hdrop]
          simp only [chain2]
          simp at h2 ⊢
          omega
        simp only [validG, hv, this, go_sem, seval]
      · repeat' (first
    | ((first | with_reducible apply awp_sr5 | with_reducible apply awp_r5 | with_reducible apply awp_sd | with_reducible apply awp_d | with_reducible apply inlR_n5 | with_reducible apply inlR_r5); (· (first | exact Ctx.fn_ok hS | exact Ctx.rd_ok hS | assumption | exact True.intro)); iterate 2 (· (simp only [go_sem, seval] <;> eq_refl)))
    | (first | with_reducible apply awp_scp | with_reducible apply awp_sn | with_reducible apply awp_nop | with_reducible apply awp_ret | with_reducible apply awp_exit | with_reducible apply awp_block | with_reducible apply awp_seq | with_reducible apply seqK_n | with_reducible apply seqK_r | with_reducible apply seqK_x | with_reducible apply blkK_n | with_reducible apply blkK_r | with_reducible apply blkK_x)
    | (with_reducible apply blkK_y; (· first | rfl | decide))
    | (first | with_reducible apply backK_x | with_reducible apply backK_r | with_reducible apply asgK_n | with_reducible apply rngK_x | with_reducible apply rngK_r | with_reducible apply True.intro | with_reducible apply And.intro True.intro True.intro)
    | (fail_if_success with_reducible apply K_id); (fail_if_success with_reducible apply awp_id); first | omega | (simp only [go_sem, seval]; done)
    | fail)
        refine backK_n (k + 1, a, c + 50) ⟨by omega, ?_⟩ (by show S.length - (k + 1) < S.length - k; omega) ⟨?_, ?_, ?_⟩
        · show _ = chain2 a (S.drop (k + 1))
          rw [hv, hdrop]
          simp only [chain2]
          simp at h2
          simp [h2]
          try omega
        · simp only [go_sem, seval] <;> simp
        · simp only [go_sem, seval]
        · simp
    · have hk' : k = S.length := by omega
      have : chain2 (-1) S = true := by rw [hv, hk']; simp [chain2]
      repeat' (first
    | ((first | with_reducible apply awp_sr5 | with_reducible apply awp_r5 | with_reducible apply awp_sd | with_reducible apply awp_d | with_reducible apply inlR_n5 | with_reducible apply inlR_r5); (· (first | exact Ctx.fn_ok hS | exact Ctx.rd_ok hS | assumption | exact True.intro)); iterate 2 (· (simp only [go_sem, seval, Am.S6, Am.sIsIn, Am.sClockValid, Am.dec3_row3] <;> eq_refl)))
    | (first | with_reducible apply awp_scp | with_reducible apply awp_sn | with_reducible apply awp_nop | with_reducible apply awp_ret | with_reducible apply awp_exit | with_reducible apply awp_block | with_reducible apply awp_seq | with_reducible apply seqK_n | with_reducible apply seqK_r | with_reducible apply seqK_x | with_reducible apply blkK_n | with_reducible apply blkK_r | with_reducible apply blkK_x)
    | (with_reducible apply blkK_y; (· first | rfl | decide))
    | (first | with_reducible apply backK_x | with_reducible apply backK_r | with_reducible apply asgK_n | with_reducible apply rngK_x | with_reducible apply rngK_r | with_reducible apply True.intro | with_reducible apply And.intro True.intro True.intro)
    | (fail_if_success with_reducible apply K_id); (fail_if_success with_reducible apply awp_id); first | omega | (simp only [go_sem, seval, Am.S6, Am.sIsIn, Am.sClockValid, Am.dec3_row3]; done)
    | fail)
      first | refine endK_r (by simp only [go_sem, seval] <;> eq_refl) (by simp only [go_sem, seval]) (by simp only [go_sem, seval]) ?_ rfl | refine endK_n (by simp only [go_sem, seval] <;> eq_refl) (by simp only [go_sem, seval]) (by simp only [go_sem, seval]) ?_ rfl
      simp only [validG, this, go_sem, seval]

def sMonValid : Spec
  | [.agg [.v (.int .i64 d), .sl y1 _ rows1 _, .v (.int .i64 tol), .v (.int .i64 rate), .sl y2 _ rows2 _]] => some ((y1 = 3 ∨ rows1 = []) ∧ rows1 = (rows1.map dec3).map row3 ∧ (y2 = 2 ∨ rows2 = []) ∧ rows2 = (rows2.map dec2).map row2 ∧ rows2.length ≤ 1000,
      .b (validG ⟨d, rows1.map dec3, tol, rate, rows2.map dec2⟩))
  | _ => none
theorem monValid_fok : FOK Try.prog 16 sMonValid := ⟨of16, by
  intro args vc r h hv
  unfold sMonValid at h
  split at h
  · rename_i d y1 f1 rows1 zs1 tol rate y2 f2 rows2 zs2
    cases h
    obtain ⟨h1, h2, h3, h4, h5⟩ := hv
    refine PCall.arg ?_ (monValid_ok ⟨d, rows1.map dec3, tol, rate, rows2.map dec2⟩ f1 f2 zs1 zs2 (by simpa using h5))
    simp only [wkL, wk, and_true, true_and]
    exact ⟨⟨h2, h1, fun h => h⟩, h4, h3, fun h => h⟩
  · simp at h⟩

/-- A fact: its index, its bounds, its seconds. -/
abbrev Fc := Int × Int × Int × Int × Int
def fcAV (f : Fc) : AV := .agg [.i f.1, .i f.2.1, .i f.2.2.1, .i f.2.2.2.1, .i f.2.2.2.2]
def reachS (rate : Int) (f : Fc) (t : Int) : Int := rate * max (max (max (t - f.2.2.2.1) (f.2.2.2.2 - t)) (f.2.2.2.1 - t)) (t - f.2.2.2.2)
def FB (f : Fc) : Prop := -2000000 ≤ f.2.1 ∧ f.2.1 ≤ 2000000 ∧ -2000000 ≤ f.2.2.1 ∧ f.2.2.1 ≤ 2000000 ∧ 0 ≤ f.2.2.2.1 ∧ f.2.2.2.1 ≤ f.2.2.2.2 ∧ f.2.2.2.2 ≤ 10000000

theorem reach_bd {rate t : Int} {f : Fc} (hf : FB f) (hr : 0 ≤ rate ∧ rate ≤ 1000) (ht : 0 ≤ t ∧ t ≤ 10000000) : 0 ≤ reachS rate f t ∧ reachS rate f t ≤ 10000000000 := by
  obtain ⟨_, _, _, _, h1, h2, h3⟩ := hf
  unfold reachS
  have hm : 0 ≤ max (max (max (t - f.2.2.2.1) (f.2.2.2.2 - t)) (f.2.2.2.1 - t)) (t - f.2.2.2.2) ∧ max (max (max (t - f.2.2.2.1) (f.2.2.2.2 - t)) (f.2.2.2.1 - t)) (t - f.2.2.2.2) ≤ 10000000 := by omega
  generalize max (max (max (t - f.2.2.2.1) (f.2.2.2.2 - t)) (f.2.2.2.1 - t)) (t - f.2.2.2.2) = m at hm ⊢
  refine ⟨Int.mul_nonneg hr.1 hm.1, ?_⟩
  calc rate * m ≤ 1000 * m := Int.mul_le_mul_of_nonneg_right hr.2 hm.1
    _ ≤ 10000000000 := by omega

theorem factAt_ok (f : Fc) (rate t : Int) (hf : FB f) (hr : 0 ≤ rate ∧ rate ≤ 1000) (ht : 0 ≤ t ∧ t ≤ 10000000) : PCall Try.prog 53 [fcAV f, .i rate, .i t] (.tup [.i (f.2.1 - reachS rate f t), .i (f.2.2.1 + reachS rate f t)]) := by
  have hb := reach_bd hf hr ht
  obtain ⟨i, lo, hi, fi, la⟩ := f
  simp only [reachS, FB] at hb hf
  simp only [fcAV, reachS]
  refine pcall_fn S0_ok _ Try.func53 ok53 nt53 (by simp) fun _ => ?_
  have hS := S0_ok
  unfold ac53 rv53
  repeat' (first
    | ((first | with_reducible apply awp_sr5 | with_reducible apply awp_r5 | with_reducible apply awp_sd | with_reducible apply awp_d | with_reducible apply inlR_n5 | with_reducible apply inlR_r5); (· (first | exact Ctx.fn_ok hS | exact Ctx.rd_ok hS | assumption | exact True.intro)); iterate 2 (· (simp only [go_sem, seval] <;> eq_refl)))
    | (first | with_reducible apply awp_scp | with_reducible apply awp_sn | with_reducible apply awp_nop | with_reducible apply awp_ret | with_reducible apply awp_exit | with_reducible apply awp_block | with_reducible apply awp_seq | with_reducible apply seqK_n | with_reducible apply seqK_r | with_reducible apply seqK_x | with_reducible apply blkK_n | with_reducible apply blkK_r | with_reducible apply blkK_x)
    | (with_reducible apply blkK_y; (· first | rfl | decide))
    | (first | with_reducible apply backK_x | with_reducible apply backK_r | with_reducible apply asgK_n | with_reducible apply rngK_x | with_reducible apply rngK_r | with_reducible apply True.intro | with_reducible apply And.intro True.intro True.intro)
    | (fail_if_success with_reducible apply K_id); (fail_if_success with_reducible apply awp_id); first | omega | (simp only [go_sem, seval]; done)
    | fail)
  first | refine endK_r (by simp only [go_sem, seval] <;> eq_refl) (by simp only [go_sem, seval]) (by simp only [go_sem, seval]) ?_ rfl | refine endK_n (by simp only [go_sem, seval] <;> eq_refl) (by simp only [go_sem, seval]) (by simp only [go_sem, seval]) ?_ rfl
  simp only [go_sem, seval]

def sFactAt : Spec
  | [.agg [.v (.int .i64 i), .v (.int .i64 lo), .v (.int .i64 hi), .v (.int .i64 fi), .v (.int .i64 la)], .v (.int .i64 rate), .v (.int .i64 t)] =>
    some (FB (i, lo, hi, fi, la) ∧ (0 ≤ rate ∧ rate ≤ 1000) ∧ (0 ≤ t ∧ t ≤ 10000000), .tup [.i (lo - reachS rate (i, lo, hi, fi, la) t), .i (hi + reachS rate (i, lo, hi, fi, la) t)])
  | _ => none
theorem factAt_fok : FOK Try.prog 53 sFactAt := ⟨of53, by
  intro args vc r h hv
  unfold sFactAt at h
  split at h
  · cases h
    exact factAt_ok _ _ _ hv.1 hv.2.1 hv.2.2
  · simp at h⟩

/-- Bounds with their reasons. -/
abbrev Bd := Int × Int × Int × Int
def bdAV (b : Bd) : AV := .agg [.i b.1, .i b.2.1, .i b.2.2.1, .i b.2.2.2]
def lookStep (rate t : Int) (b : Bd) (f : Fc) : Bd :=
  let lo := f.2.1 - reachS rate f t
  let hi := f.2.2.1 + reachS rate f t
  let b1 : Bd := if b.1 < lo ∨ lo = b.1 ∧ b.2.2.1 < 0 then (lo, b.2.1, f.1, b.2.2.2) else b
  if hi < b1.2.1 ∨ hi = b1.2.1 ∧ b1.2.2.2 < 0 then (b1.1, hi, b1.2.2.1, f.1) else b1

def S7 : List (Nat × Spec) := [(53, sFactAt)]
theorem S7_ok : TabOK Try.prog (tabOf S7) := tab_cons factAt_fok tab_nil

theorem lookStep_ok (b : Bd) (f : Fc) (rate t : Int) (hf : FB f) (hr : 0 ≤ rate ∧ rate ≤ 1000) (ht : 0 ≤ t ∧ t ≤ 10000000) : PCall Try.prog 52 [bdAV b, fcAV f, .ro [.i rate] 0, .ro [.i t] 0] (bdAV (lookStep rate t b f)) := by
  obtain ⟨i, lo, hi, fi, la⟩ := f
  obtain ⟨b1, b2, b3, b4⟩ := b
  simp only [fcAV, bdAV]
  refine pcall_fn S7_ok _ Try.func52 ok52 nt52 (by simp) fun _ => ?_
  have hS := S7_ok
  unfold ac52 rv52
  repeat' (first
    | ((first | with_reducible apply awp_sr5 | with_reducible apply awp_r5 | with_reducible apply awp_sd | with_reducible apply awp_d | with_reducible apply inlR_n5 | with_reducible apply inlR_r5); (· (first | exact Ctx.fn_ok hS | exact Ctx.rd_ok hS | assumption | exact True.intro)); iterate 2 (· (simp only [go_sem, seval, Am.S7, Am.sFactAt, hf, hr.1, hr.2, ht.1, ht.2] <;> eq_refl)))
    | (first | with_reducible apply awp_scp | with_reducible apply awp_sn | with_reducible apply awp_nop | with_reducible apply awp_ret | with_reducible apply awp_exit | with_reducible apply awp_block | with_reducible apply awp_seq | with_reducible apply seqK_n | with_reducible apply seqK_r | with_reducible apply seqK_x | with_reducible apply blkK_n | with_reducible apply blkK_r | with_reducible apply blkK_x)
    | (with_reducible apply blkK_y; (· first | rfl | decide))
    | (first | with_reducible apply backK_x | with_reducible apply backK_r | with_reducible apply asgK_n | with_reducible apply rngK_x | with_reducible apply rngK_r | with_reducible apply True.intro | with_reducible apply And.intro True.intro True.intro)
    | (fail_if_success with_reducible apply K_id); (fail_if_success with_reducible apply awp_id); first | omega | (simp only [go_sem, seval, Am.S7, Am.sFactAt, hf, hr.1, hr.2, ht.1, ht.2]; done)
    | fail)
  have hB := reach_bd hf hr ht
  generalize hq : reachS rate (i, lo, hi, fi, la) t = q at hB
  refine awp_cp (b1 < lo - q ∨ lo - q = b1 ∧ b3 < 0) (by simp only [go_sem, seval] <;> eq_refl) (by first | simp only [Bool.decide_or, Bool.decide_and, decide_not] | simp) (fun h1 => ?_) (fun h1 => ?_)
  · repeat' (first
    | ((first | with_reducible apply awp_sr5 | with_reducible apply awp_r5 | with_reducible apply awp_sd | with_reducible apply awp_d | with_reducible apply inlR_n5 | with_reducible apply inlR_r5); (· (first | exact Ctx.fn_ok hS | exact Ctx.rd_ok hS | assumption | exact True.intro)); iterate 2 (· (simp only [go_sem, seval] <;> eq_refl)))
    | (first | with_reducible apply awp_scp | with_reducible apply awp_sn | with_reducible apply awp_nop | with_reducible apply awp_ret | with_reducible apply awp_exit | with_reducible apply awp_block | with_reducible apply awp_seq | with_reducible apply seqK_n | with_reducible apply seqK_r | with_reducible apply seqK_x | with_reducible apply blkK_n | with_reducible apply blkK_r | with_reducible apply blkK_x)
    | (with_reducible apply blkK_y; (· first | rfl | decide))
    | (first | with_reducible apply backK_x | with_reducible apply backK_r | with_reducible apply asgK_n | with_reducible apply rngK_x | with_reducible apply rngK_r | with_reducible apply True.intro | with_reducible apply And.intro True.intro True.intro)
    | (fail_if_success with_reducible apply K_id); (fail_if_success with_reducible apply awp_id); first | omega | (simp only [go_sem, seval]; done)
    | fail)
    refine awp_cp (hi + q < b2 ∨ hi + q = b2 ∧ b4 < 0) (by simp only [go_sem, seval] <;> eq_refl) (by first | simp only [Bool.decide_or, Bool.decide_and, decide_not] | simp) (fun h2 => ?_) (fun h2 => ?_)
    · repeat' (first
    | ((first | with_reducible apply awp_sr5 | with_reducible apply awp_r5 | with_reducible apply awp_sd | with_reducible apply awp_d | with_reducible apply inlR_n5 | with_reducible apply inlR_r5); (· (first | exact Ctx.fn_ok hS | exact Ctx.rd_ok hS | assumption | exact True.intro)); iterate 2 (· (simp only [go_sem, seval] <;> eq_refl)))
    | (first | with_reducible apply awp_scp | with_reducible apply awp_sn | with_reducible apply awp_nop | with_reducible apply awp_ret | with_reducible apply awp_exit | with_reducible apply awp_block | with_reducible apply awp_seq | with_reducible apply seqK_n | with_reducible apply seqK_r | with_reducible apply seqK_x | with_reducible apply blkK_n | with_reducible apply blkK_r | with_reducible apply blkK_x)
    | (with_reducible apply blkK_y; (· first | rfl | decide))
    | (first | with_reducible apply backK_x | with_reducible apply backK_r | with_reducible apply asgK_n | with_reducible apply rngK_x | with_reducible apply rngK_r | with_reducible apply True.intro | with_reducible apply And.intro True.intro True.intro)
    | (fail_if_success with_reducible apply K_id); (fail_if_success with_reducible apply awp_id); first | omega | (simp only [go_sem, seval]; done)
    | fail)
      first | refine endK_r (by simp only [go_sem, seval] <;> eq_refl) (by simp only [go_sem, seval]) (by simp only [go_sem, seval]) ?_ rfl | refine endK_n (by simp only [go_sem, seval] <;> eq_refl) (by simp only [go_sem, seval]) (by simp only [go_sem, seval]) ?_ rfl
      simp only [lookStep, hq, if_pos h1, if_pos h2, go_sem, seval]
    · repeat' (first
    | ((first | with_reducible apply awp_sr5 | with_reducible apply awp_r5 | with_reducible apply awp_sd | with_reducible apply awp_d | with_reducible apply inlR_n5 | with_reducible apply inlR_r5); (· (first | exact Ctx.fn_ok hS | exact Ctx.rd_ok hS | assumption | exact True.intro)); iterate 2 (· (simp only [go_sem, seval] <;> eq_refl)))
    | (first | with_reducible apply awp_scp | with_reducible apply awp_sn | with_reducible apply awp_nop | with_reducible apply awp_ret | with_reducible apply awp_exit | with_reducible apply awp_block | with_reducible apply awp_seq | with_reducible apply seqK_n | with_reducible apply seqK_r | with_reducible apply seqK_x | with_reducible apply blkK_n | with_reducible apply blkK_r | with_reducible apply blkK_x)
    | (with_reducible apply blkK_y; (· first | rfl | decide))
    | (first | with_reducible apply backK_x | with_reducible apply backK_r | with_reducible apply asgK_n | with_reducible apply rngK_x | with_reducible apply rngK_r | with_reducible apply True.intro | with_reducible apply And.intro True.intro True.intro)
    | (fail_if_success with_reducible apply K_id); (fail_if_success with_reducible apply awp_id); first | omega | (simp only [go_sem, seval]; done)
    | fail)
      first | refine endK_r (by simp only [go_sem, seval] <;> eq_refl) (by simp only [go_sem, seval]) (by simp only [go_sem, seval]) ?_ rfl | refine endK_n (by simp only [go_sem, seval] <;> eq_refl) (by simp only [go_sem, seval]) (by simp only [go_sem, seval]) ?_ rfl
      simp only [lookStep, hq, if_pos h1, if_neg h2, go_sem, seval]
  · repeat' (first
    | ((first | with_reducible apply awp_sr5 | with_reducible apply awp_r5 | with_reducible apply awp_sd | with_reducible apply awp_d | with_reducible apply inlR_n5 | with_reducible apply inlR_r5); (· (first | exact Ctx.fn_ok hS | exact Ctx.rd_ok hS | assumption | exact True.intro)); iterate 2 (· (simp only [go_sem, seval] <;> eq_refl)))
    | (first | with_reducible apply awp_scp | with_reducible apply awp_sn | with_reducible apply awp_nop | with_reducible apply awp_ret | with_reducible apply awp_exit | with_reducible apply awp_block | with_reducible apply awp_seq | with_reducible apply seqK_n | with_reducible apply seqK_r | with_reducible apply seqK_x | with_reducible apply blkK_n | with_reducible apply blkK_r | with_reducible apply blkK_x)
    | (with_reducible apply blkK_y; (· first | rfl | decide))
    | (first | with_reducible apply backK_x | with_reducible apply backK_r | with_reducible apply asgK_n | with_reducible apply rngK_x | with_reducible apply rngK_r | with_reducible apply True.intro | with_reducible apply And.intro True.intro True.intro)
    | (fail_if_success with_reducible apply K_id); (fail_if_success with_reducible apply awp_id); first | omega | (simp only [go_sem, seval]; done)
    | fail)
    refine awp_cp (hi + q < b2 ∨ hi + q = b2 ∧ b4 < 0) (by simp only [go_sem, seval] <;> eq_refl) (by first | simp only [Bool.decide_or, Bool.decide_and, decide_not] | simp) (fun h2 => ?_) (fun h2 => ?_)
    · repeat' (first
    | ((first | with_reducible apply awp_sr5 | with_reducible apply awp_r5 | with_reducible apply awp_sd | with_reducible apply awp_d | with_reducible apply inlR_n5 | with_reducible apply inlR_r5); (· (first | exact Ctx.fn_ok hS | exact Ctx.rd_ok hS | assumption | exact True.intro)); iterate 2 (· (simp only [go_sem, seval] <;> eq_refl)))
    | (first | with_reducible apply awp_scp | with_reducible apply awp_sn | with_reducible apply awp_nop | with_reducible apply awp_ret | with_reducible apply awp_exit | with_reducible apply awp_block | with_reducible apply awp_seq | with_reducible apply seqK_n | with_reducible apply seqK_r | with_reducible apply seqK_x | with_reducible apply blkK_n | with_reducible apply blkK_r | with_reducible apply blkK_x)
    | (with_reducible apply blkK_y; (· first | rfl | decide))
    | (first | with_reducible apply backK_x | with_reducible apply backK_r | with_reducible apply asgK_n | with_reducible apply rngK_x | with_reducible apply rngK_r | with_reducible apply True.intro | with_reducible apply And.intro True.intro True.intro)
    | (fail_if_success with_reducible apply K_id); (fail_if_success with_reducible apply awp_id); first | omega | (simp only [go_sem, seval]; done)
    | fail)
      first | refine endK_r (by simp only [go_sem, seval] <;> eq_refl) (by simp only [go_sem, seval]) (by simp only [go_sem, seval]) ?_ rfl | refine endK_n (by simp only [go_sem, seval] <;> eq_refl) (by simp only [go_sem, seval]) (by simp only [go_sem, seval]) ?_ rfl
      simp only [lookStep, hq, if_neg h1, if_pos h2, go_sem, seval]
    · repeat' (first
    | ((first | with_reducible apply awp_sr5 | with_reducible apply awp_r5 | with_reducible apply awp_sd | with_reducible apply awp_d | with_reducible apply inlR_n5 | with_reducible apply inlR_r5); (· (first | exact Ctx.fn_ok hS | exact Ctx.rd_ok hS | assumption | exact True.intro)); iterate 2 (· (simp only [go_sem, seval] <;> eq_refl)))
    | (first | with_reducible apply awp_scp | with_reducible apply awp_sn | with_reducible apply awp_nop | with_reducible apply awp_ret | with_reducible apply awp_exit | with_reducible apply awp_block | with_reducible apply awp_seq | with_reducible apply seqK_n | with_reducible apply seqK_r | with_reducible apply seqK_x | with_reducible apply blkK_n | with_reducible apply blkK_r | with_reducible apply blkK_x)
    | (with_reducible apply blkK_y; (· first | rfl | decide))
    | (first | with_reducible apply backK_x | with_reducible apply backK_r | with_reducible apply asgK_n | with_reducible apply rngK_x | with_reducible apply rngK_r | with_reducible apply True.intro | with_reducible apply And.intro True.intro True.intro)
    | (fail_if_success with_reducible apply K_id); (fail_if_success with_reducible apply awp_id); first | omega | (simp only [go_sem, seval]; done)
    | fail)
      first | refine endK_r (by simp only [go_sem, seval] <;> eq_refl) (by simp only [go_sem, seval]) (by simp only [go_sem, seval]) ?_ rfl | refine endK_n (by simp only [go_sem, seval] <;> eq_refl) (by simp only [go_sem, seval]) (by simp only [go_sem, seval]) ?_ rfl
      simp only [lookStep, hq, if_neg h1, if_neg h2, go_sem, seval]

def sLookStep : Spec
  | [.agg [.v (.int .i64 b1), .v (.int .i64 b2), .v (.int .i64 b3), .v (.int .i64 b4)], .agg [.v (.int .i64 i), .v (.int .i64 lo), .v (.int .i64 hi), .v (.int .i64 fi), .v (.int .i64 la)], .ro [.v (.int .i64 rate)] 0, .ro [.v (.int .i64 t)] 0] =>
    some (FB (i, lo, hi, fi, la) ∧ (0 ≤ rate ∧ rate ≤ 1000) ∧ (0 ≤ t ∧ t ≤ 10000000), bdAV (lookStep rate t (b1, b2, b3, b4) (i, lo, hi, fi, la)))
  | _ => none
theorem lookStep_fok : FOK Try.prog 52 sLookStep := ⟨of52, by
  intro args vc r h hv
  unfold sLookStep at h
  split at h
  · cases h
    exact lookStep_ok (_, _, _, _) (_, _, _, _, _) _ _ hv.1 hv.2.1 hv.2.2
  · simp at h⟩

def S8 : List (Nat × Spec) := [(52, sLookStep)]
theorem S8_ok : TabOK Try.prog (tabOf S8) := tab_cons lookStep_fok tab_nil

def lookS (rate t : Int) (xs : List Fc) : Bd := xs.foldl (lookStep rate t) (-1000000, 1000000, -1, -1)

theorem folded_ok {fi : Nat} {caps : List AV} (xs : List Fc) (hit : ItC Try.prog fi [] caps (xs.map fun f => [fcAV f])) (hof : okF Try.prog fi) (hcaps : pureL caps = true) (b0 : Bd) (rate t : Int) (hxs : ∀ f ∈ xs, FB f) (hr : 0 ≤ rate ∧ rate ≤ 1000) (ht : 0 ≤ t ∧ t ≤ 10000000) :
    PCall Try.prog 50 [bdAV b0, .clo (.func fi) [] caps, .clo (.func 52) [] [.ro [.i rate] 0, .ro [.i t] 0]] (bdAV (xs.foldl (lookStep rate t) b0)) := by
  refine pcall_fn S8_ok _ Try.func50 ok50 nt50 (by simp) fun _ => ?_
  have hS := S8_ok
  obtain ⟨b1, b2, b3, b4⟩ := b0
  simp only [bdAV]
  unfold ac50 rv50
  repeat' (first
    | ((first | with_reducible apply awp_sr5 | with_reducible apply awp_r5 | with_reducible apply awp_sd | with_reducible apply awp_d | with_reducible apply inlR_n5 | with_reducible apply inlR_r5); (· (first | exact Ctx.fn_ok hS | exact Ctx.rd_ok hS | assumption | exact True.intro)); iterate 2 (· (simp only [go_sem, seval] <;> eq_refl)))
    | (first | with_reducible apply awp_scp | with_reducible apply awp_sn | with_reducible apply awp_nop | with_reducible apply awp_ret | with_reducible apply awp_exit | with_reducible apply awp_block | with_reducible apply awp_seq | with_reducible apply seqK_n | with_reducible apply seqK_r | with_reducible apply seqK_x | with_reducible apply blkK_n | with_reducible apply blkK_r | with_reducible apply blkK_x)
    | (with_reducible apply blkK_y; (· first | rfl | decide))
    | (first | with_reducible apply backK_x | with_reducible apply backK_r | with_reducible apply asgK_n | with_reducible apply rngK_x | with_reducible apply rngK_r | with_reducible apply True.intro | with_reducible apply And.intro True.intro True.intro)
    | (fail_if_success with_reducible apply K_id); (fail_if_success with_reducible apply awp_id); first | omega | (simp only [go_sem, seval]; done)
    | fail)
  refine awp_rfun (fun x : Nat × Nat × Bd => ([(.c (0, 1) 0, .i x.2.2.1), (.c (0, 1) 1, .i x.2.2.2.1), (.c (0, 1) 2, .i x.2.2.2.2.1), (.c (0, 1) 3, .i x.2.2.2.2.2), (.c (1, 1) 0, .clo (.func 52) [] [.ro [.i rate] 0, .ro [.i t] 0]), (.c (2, 1) 0, .i 0), (.c (2, 1) 1, .i 0), (.c (2, 1) 2, .i 0), (.c (2, 1) 3, .i 0)], x.2.1))
    (fun x => (xs.drop x.1).foldl (lookStep rate t) x.2.2 = xs.foldl (lookStep rate t) (b1, b2, b3, b4)) (fun x => x.1) (0, 50, (b1, b2, b3, b4)) (by simp only [go_sem, seval] <;> eq_refl) hit hof ⟨rfl, hcaps⟩ (by simp) ?_ rfl rfl ?_ ?_ ?_
  · intro args ha
    obtain ⟨f, _, rfl⟩ := List.mem_map.1 ha
    simp [fcAV, go_sem, seval]
  · refine Le.of ?_ ?_ (by simp) <;> simp only [go_sem, seval]
  · rintro l ⟨k, c, u1, u2, u3, u4⟩ hp args hargs
    simp only at hp hargs
    obtain ⟨f, hf, rfl⟩ : ∃ f, xs[k]? = some f ∧ args = [fcAV f] := by
      simp only [List.getElem?_map, Option.map_eq_some_iff] at hargs
      obtain ⟨f, h1, h2⟩ := hargs
      exact ⟨f, h1, h2.symm⟩
    have hk : k < xs.length := (List.getElem?_eq_some_iff.1 hf).1
    have hdrop : xs.drop k = f :: xs.drop (k + 1) := by
      rw [List.drop_eq_getElem_cons hk]
      congr 1
      exact (List.getElem?_eq_some_iff.1 hf).2
    have hFB := hxs f (List.mem_of_getElem? hf)
    obtain ⟨i, lo, hi, fi, la⟩ := f
    simp only [fcAV]
    repeat' (first
    | ((first | with_reducible apply awp_sr5 | with_reducible apply awp_r5 | with_reducible apply awp_sd | with_reducible apply awp_d | with_reducible apply inlR_n5 | with_reducible apply inlR_r5); (· (first | exact Ctx.fn_ok hS | exact Ctx.rd_ok hS | assumption | exact True.intro)); iterate 2 (· (simp only [go_sem, seval, Am.S8, Am.sLookStep, Am.bdAV, hFB, hr.1, hr.2, ht.1, ht.2] <;> eq_refl)))
    | (first | with_reducible apply awp_scp | with_reducible apply awp_sn | with_reducible apply awp_nop | with_reducible apply awp_ret | with_reducible apply awp_exit | with_reducible apply awp_block | with_reducible apply awp_seq | with_reducible apply seqK_n | with_reducible apply seqK_r | with_reducible apply seqK_x | with_reducible apply blkK_n | with_reducible apply blkK_r | with_reducible apply blkK_x)
    | (with_reducible apply blkK_y; (· first | rfl | decide))
    | (first | with_reducible apply backK_x | with_reducible apply backK_r | with_reducible apply asgK_n | with_reducible apply rngK_x | with_reducible apply rngK_r | with_reducible apply True.intro | with_reducible apply And.intro True.intro True.intro)
    | (fail_if_success with_reducible apply K_id); (fail_if_success with_reducible apply awp_id); first | omega | (simp only [go_sem, seval, Am.S8, Am.sLookStep, Am.bdAV, hFB, hr.1, hr.2, ht.1, ht.2]; done)
    | fail)
    refine rngK_n (k + 1, c + 50, lookStep rate t (u1, u2, u3, u4) (i, lo, hi, fi, la)) ?_ rfl (Le.of ?_ ?_ ?_)
    · rw [← hp, hdrop]; rfl
    · simp only [go_sem, seval]
    · simp only [go_sem, seval]
    · simp
  · rintro ⟨k, c, u1, u2, u3, u4⟩ hp hk
    simp only [List.length_map] at hp hk
    have : xs.foldl (lookStep rate t) (b1, b2, b3, b4) = (u1, u2, u3, u4) := by rw [← hp, hk]; simp
    rw [this]
    repeat' (first
    | ((first | with_reducible apply awp_sr5 | with_reducible apply awp_r5 | with_reducible apply awp_sd | with_reducible apply awp_d | with_reducible apply inlR_n5 | with_reducible apply inlR_r5); (· (first | exact Ctx.fn_ok hS | exact Ctx.rd_ok hS | assumption | exact True.intro)); iterate 2 (· (simp only [go_sem, seval] <;> eq_refl)))
    | (first | with_reducible apply awp_scp | with_reducible apply awp_sn | with_reducible apply awp_nop | with_reducible apply awp_ret | with_reducible apply awp_exit | with_reducible apply awp_block | with_reducible apply awp_seq | with_reducible apply seqK_n | with_reducible apply seqK_r | with_reducible apply seqK_x | with_reducible apply blkK_n | with_reducible apply blkK_r | with_reducible apply blkK_x)
    | (with_reducible apply blkK_y; (· first | rfl | decide))
    | (first | with_reducible apply backK_x | with_reducible apply backK_r | with_reducible apply asgK_n | with_reducible apply rngK_x | with_reducible apply rngK_r | with_reducible apply True.intro | with_reducible apply And.intro True.intro True.intro)
    | (fail_if_success with_reducible apply K_id); (fail_if_success with_reducible apply awp_id); first | omega | (simp only [go_sem, seval]; done)
    | fail)
    first | refine endK_r (by simp only [go_sem, seval] <;> eq_refl) (by simp only [go_sem, seval]) (by simp only [go_sem, seval]) ?_ rfl | refine endK_n (by simp only [go_sem, seval] <;> eq_refl) (by simp only [go_sem, seval]) (by simp only [go_sem, seval]) ?_ rfl
    simp only [go_sem, seval]
end Go.Proofs.Ytmmfbjmjhjmccaa.Am
