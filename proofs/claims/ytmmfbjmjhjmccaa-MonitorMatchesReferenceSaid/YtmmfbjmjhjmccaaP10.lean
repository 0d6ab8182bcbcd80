import Derived.Test.YtmmfbjmjhjmccaaP9
namespace Go.Proofs.Ytmmfbjmjhjmccaa.Am
open Go
attribute [local irreducible] awp seqK blkK backK endK inlK restK rngK asgK itK
set_option maxRecDepth 100000
set_option maxHeartbeats 8000000
set_option linter.unusedSimpArgs false
set_option linter.unusedVariables false
def sMade05 : Spec
  | [.v (.int .i64 drift), .v (.int .i64 start), .sl y1 _ rows1 _, .sl y2 _ rows2 _] => some (((y1 = 1 ∨ rows1 = []) ∧ (y2 = 3 ∨ rows2 = [])) ∧ rows1 = (rows1.map dec1).map row1 ∧ rows2 = (rows2.map dec3).map row3 ∧ inI drift ∧ inI start ∧ (∀ r ∈ rows1.map dec1, inI r) ∧ (∀ r ∈ rows2.map dec3, inI r.1 ∧ inI r.2.1 ∧ inI r.2.2),
      .agg [.i (pickS drift 101), .sl 3 false ((made05 drift start (rows1.map dec1) (rows2.map dec3)).map row3) [.i 0, .i 0, .i 0]])
  | _ => none
theorem made05_fok : FOK Try.prog 33 sMade05 := ⟨of33, by
  intro args vc r h hv
  unfold sMade05 at h
  split at h
  · rename_i drift start y1 f1 rows1 z1 y2 f2 rows2 z2
    cases h
    obtain ⟨⟨a1, a2⟩, b1, b2, h1, h2, h3, h4⟩ := hv
    refine PCall.arg ?_ (made05_ok drift start (rows1.map dec1) (rows2.map dec3) f1 f2 z1 z2 h1 h2 h3 h4)
    simp only [wkL, wk, and_true, true_and]
    exact ⟨⟨b1, a1, fun h => h⟩, b2, a2, fun h => h⟩
  · simp at h⟩

def lastS (R : List Sm) : Sm := R.getD (R.length - 1) (0, 0)
theorem rowAt_lastS (R : List Sm) : rowAt (R.map row2) [.i 0, .i 0] ((R.length : Int) - 1).toNat = [.i (lastS R).1, .i (lastS R).2] := by
  unfold lastS rowAt
  have : ((R.length : Int) - 1).toNat = R.length - 1 := by omega
  rw [this]
  rcases Nat.eq_zero_or_pos R.length with h | h
  · have : R = [] := List.eq_nil_of_length_eq_zero h
    subst this
    simp
  · have h1 : R.length - 1 < R.length := by omega
    simp [List.getD_eq_getElem?_getD, h1, row2]
def stepS (x : Sty) (q : Int × List Sm) (p : Sm) : Int × List Sm :=
  let t := q.1 + pickS p.1 31
  let s : Sm := (shownS x.drift x.start x.rates t, valueS x.rate x.first x.steps t.toNat + pickS p.2 (2 * pickS x.tol 31 + 1) - pickS x.tol 31)
  (t, if q.2.length = 0 ∨ (lastS q.2).1 < s.1 then q.2 ++ [s] else q.2)
def atOf (x : Sty) : List Rd3 := (x.rd.take 5).map fun p => (pickS p.1 360, p.2.1, p.2.2)
def made24 (x : Sty) : Ga := ⟨pickS x.drift 101, made05 x.drift x.start x.rates (atOf x), pickS x.tol 31, pickS x.rate 21, ((x.sm.take 12).foldl (stepS x) (0, [])).2⟩

theorem valueS_bd (rate first : Int) (steps : List Int) (t : Nat) : -1000 - 20 * (t : Int) ≤ valueS rate first steps t ∧ valueS rate first steps t ≤ 1000 + 20 * t := by
  have h0 := @pick_bd first 2001 (by omega)
  have key : ∀ n : Nat, -1000 - 20 * (n : Int) ≤ (List.range n).foldl (valStep rate steps) (pickS first 2001 - 1000) ∧ (List.range n).foldl (valStep rate steps) (pickS first 2001 - 1000) ≤ 1000 + 20 * n := by
    intro n
    induction n with
    | zero => simp; omega
    | succ n ih =>
      rw [fold_range_succ]
      have := valStep_bd rate steps ((List.range n).foldl (valStep rate steps) (pickS first 2001 - 1000)) n
      omega
  unfold valueS
  split
  · have := key 0; omega
  · exact key t

def S21 : List (Nat × Spec) := [(32, sPick), (33, sMade05), (34, sTol), (35, sRate), (36, sShown), (28, sValue)]
theorem S21_ok : TabOK Try.prog (tabOf S21) := tab_cons pick24_fok (tab_cons made05_fok (tab_cons tol_fok (tab_cons rate_fok (tab_cons shown_fok (tab_cons value_fok tab_nil)))))

theorem made24_ok (x : Sty) (hx : x.In) (f1 f2 f3 f4 : Bool) (z1 z2 z3 z4 : List AV) : PCall Try.prog 12 [.agg (stCells x f1 f2 f3 f4 z1 z2 z3 z4)] (.agg (gCells (made24 x) false false [.i 0, .i 0, .i 0] [.i 0, .i 0])) := by
  obtain ⟨drift, start, rates, rd, tol, rate, first, steps, sm⟩ := x
  obtain ⟨i1, i2, i3, i4, i5, i6, i7, i8, i9⟩ := hx
  simp only at i1 i2 i3 i4 i5 i6 i7 i8 i9
  refine pcall_fn S21_ok _ Try.func12 ok12 nt12 (by simp) fun _ => ?_
  have hS := S21_ok
  unfold ac12 rv12
  simp only [stCells]
  repeat' (first
    | ((first | with_reducible apply awp_sr5 | with_reducible apply awp_r5 | with_reducible apply awp_sd | with_reducible apply awp_d | with_reducible apply inlR_n5 | with_reducible apply inlR_r5); (· (first | exact Ctx.fn_ok hS | exact Ctx.rd_ok hS | assumption | exact True.intro)); iterate 2 (· (simp only [go_sem, seval] <;> eq_refl)))
    | (first | with_reducible apply awp_scp | with_reducible apply awp_sn | with_reducible apply awp_nop | with_reducible apply awp_ret | with_reducible apply awp_exit | with_reducible apply awp_block | with_reducible apply awp_seq | with_reducible apply seqK_n | with_reducible apply seqK_r | with_reducible apply seqK_x | with_reducible apply blkK_n | with_reducible apply blkK_r | with_reducible apply blkK_x)
    | (with_reducible apply blkK_y; (· first | rfl | decide))
    | (first | with_reducible apply backK_x | with_reducible apply backK_r | with_reducible apply asgK_n | with_reducible apply rngK_x | with_reducible apply rngK_r | with_reducible apply True.intro | with_reducible apply And.intro True.intro True.intro)
    | (fail_if_success with_reducible apply K_id); (fail_if_success with_reducible apply awp_id); first | omega | (simp only [go_sem, seval]; done)
    | fail)
  refine awp_claimE 3 3 [.i 0, .i 0, .i 0] (by show (3 : Nat) < 128; omega) (by omega) (by simp only [go_sem, seval] <;> eq_refl) ?_
  refine awp_loop (fun x : Nat × Nat => ⟨[(4, .i x.1), (3, .own (0, 4) x.1), (2, .box (1, 1) 0), (1, .box (0, 1) 0)],
      [(.a (0, 4), .sl 3 true (((rd.take x.1).map fun p : Rd3 => ((pickS p.1 360, p.2.1, p.2.2) : Rd3)).map row3) [.i 0, .i 0, .i 0]), (.c (1, 1) 0, .i 0), (.c (1, 1) 1, .sl 0 true [] []), (.c (1, 1) 2, .i 0), (.c (1, 1) 3, .i 0), (.c (1, 1) 4, .sl 0 true [] []),
       (.c (0, 1) 0, .i drift), (.c (0, 1) 1, .i start), (.c (0, 1) 2, .sl 1 f1 (rates.map row1) z1), (.c (0, 1) 3, .sl 3 f2 (rd.map row3) z2), (.c (0, 1) 4, .i tol), (.c (0, 1) 5, .i rate), (.c (0, 1) 6, .i first), (.c (0, 1) 7, .sl 1 f3 (steps.map row1) z3), (.c (0, 1) 8, .sl 2 f4 (sm.map row2) z4)], x.2⟩)
    (fun x => x.1 ≤ 5 ∧ x.1 ≤ rd.length) (fun x => 5 - x.1) (0, 50) ?_ ?_ ?_
  · simp
  · refine Le.of ?_ ?_ (by simp) <;> (simp only [go_sem, seval]; try simp)
  · rintro ⟨i, c⟩ ⟨hi, hil⟩
    simp only at hi hil
    have hlt : (rd.take i).length = i := by simp; omega
    repeat' (first
    | ((first | with_reducible apply awp_sr5 | with_reducible apply awp_r5 | with_reducible apply awp_sd | with_reducible apply awp_d | with_reducible apply inlR_n5 | with_reducible apply inlR_r5); (· (first | exact Ctx.fn_ok hS | exact Ctx.rd_ok hS | assumption | exact True.intro)); iterate 2 (· (simp only [go_sem, seval] <;> eq_refl)))
    | (first | with_reducible apply awp_scp | with_reducible apply awp_sn | with_reducible apply awp_nop | with_reducible apply awp_ret | with_reducible apply awp_exit | with_reducible apply awp_block | with_reducible apply awp_seq | with_reducible apply seqK_n | with_reducible apply seqK_r | with_reducible apply seqK_x | with_reducible apply blkK_n | with_reducible apply blkK_r | with_reducible apply blkK_x)
    | (with_reducible apply blkK_y; (· first | rfl | decide))
    | (first | with_reducible apply backK_x | with_reducible apply backK_r | with_reducible apply asgK_n | with_reducible apply rngK_x | with_reducible apply rngK_r | with_reducible apply True.intro | with_reducible apply And.intro True.intro True.intro)
    | (fail_if_success with_reducible apply K_id); (fail_if_success with_reducible apply awp_id); first | omega | (simp only [go_sem, seval]; done)
    | fail)
    refine awp_cp ((i : Int) < rd.length ∧ (i : Int) < 5) (by simp only [go_sem, seval] <;> eq_refl) (by first | simp only [Bool.decide_or, Bool.decide_and, decide_not] | simp) (fun hc => ?_) (fun hc => ?_)
    · have hi' : i < rd.length := by omega
      obtain ⟨⟨p1, p2, p3⟩, hr⟩ : ∃ r, rd[i] = r := ⟨_, rfl⟩
      have hget : rd[i]? = some (p1, p2, p3) := by rw [List.getElem?_eq_getElem hi', hr]
      have hrow : rowAt (rd.map row3) z2 i = [.i p1, .i p2, .i p3] := by
        simp [rowAt, List.getD_eq_getElem?_getD, hi', hr, row3]
      have hin := i4 (p1, p2, p3) (by rw [← hr]; exact List.getElem_mem _)
      repeat' (first
    | ((first | with_reducible apply awp_sr5 | with_reducible apply awp_r5 | with_reducible apply awp_sd | with_reducible apply awp_d | with_reducible apply inlR_n5 | with_reducible apply inlR_r5); (· (first | exact Ctx.fn_ok hS | exact Ctx.rd_ok hS | assumption | exact True.intro)); iterate 2 (· (simp only [go_sem, seval, hrow, hlt, Am.S21, Am.sPick, Am.inI, hin.1.1, hin.1.2] <;> eq_refl)))
    | (first | with_reducible apply awp_scp | with_reducible apply awp_sn | with_reducible apply awp_nop | with_reducible apply awp_ret | with_reducible apply awp_exit | with_reducible apply awp_block | with_reducible apply awp_seq | with_reducible apply seqK_n | with_reducible apply seqK_r | with_reducible apply seqK_x | with_reducible apply blkK_n | with_reducible apply blkK_r | with_reducible apply blkK_x)
    | (with_reducible apply blkK_y; (· first | rfl | decide))
    | (first | with_reducible apply backK_x | with_reducible apply backK_r | with_reducible apply asgK_n | with_reducible apply rngK_x | with_reducible apply rngK_r | with_reducible apply True.intro | with_reducible apply And.intro True.intro True.intro)
    | (fail_if_success with_reducible apply K_id); (fail_if_success with_reducible apply awp_id); first | omega | (simp only [go_sem, seval, hrow, hlt, Am.S21, Am.sPick, Am.inI, hin.1.1, hin.1.2]; done)
    | fail)
      refine backK_n (i + 1, c + 50) ⟨by dsimp only; omega, by dsimp only; omega⟩ (by show 5 - (i + 1) < 5 - i; omega) (Le.of ?_ ?_ ?_)
      · simp only [go_sem, seval] <;> simp
      · simp only [List.take_add_one, hget, Option.toList_some, List.map_append, row3, go_sem, seval]
      · simp
    · have hat : rd.take i = rd.take 5 := by
        rcases Nat.lt_or_ge i 5 with h | h
        · have h : rd.length ≤ i := by omega
          rw [List.take_of_length_le h, List.take_of_length_le (by omega)]
        · have : i = 5 := by omega
          rw [this]
      have hin : ∀ r ∈ (rd.take i).map (fun p : Rd3 => ((pickS p.1 360, p.2.1, p.2.2) : Rd3)), inI r.1 ∧ inI r.2.1 ∧ inI r.2.2 := by
        intro r hr
        obtain ⟨p, hp, rfl⟩ := List.mem_map.1 hr
        have h1 := i4 p (List.mem_of_mem_take hp)
        have h2 := @pick_bd p.1 360 (by omega)
        exact ⟨by unfold inI; dsimp only; omega, h1.2⟩
      obtain ⟨AT, hAT⟩ : ∃ AT, (rd.take i).map (fun p : Rd3 => ((pickS p.1 360, p.2.1, p.2.2) : Rd3)) = AT := ⟨_, rfl⟩
      have hAL : AT.length = i := by rw [← hAT]; simp; omega
      rw [hAT] at hin
      simp only [hAT]
      repeat' (first
    | ((first | with_reducible apply awp_sr5 | with_reducible apply awp_r5 | with_reducible apply awp_sd | with_reducible apply awp_d | with_reducible apply inlR_n5 | with_reducible apply inlR_r5); (· (first | exact Ctx.fn_ok hS | exact Ctx.rd_ok hS | assumption | exact True.intro)); iterate 2 (· (simp only [go_sem, seval, Am.S21, Am.sMade05, Am.sTol, Am.sRate, hAL, Am.dec1_row1, Am.dec3_row3, i1, i2, i5, i6] <;> eq_refl)))
    | (first | with_reducible apply awp_scp | with_reducible apply awp_sn | with_reducible apply awp_nop | with_reducible apply awp_ret | with_reducible apply awp_exit | with_reducible apply awp_block | with_reducible apply awp_seq | with_reducible apply seqK_n | with_reducible apply seqK_r | with_reducible apply seqK_x | with_reducible apply blkK_n | with_reducible apply blkK_r | with_reducible apply blkK_x)
    | (with_reducible apply blkK_y; (· first | rfl | decide))
    | (first | with_reducible apply backK_x | with_reducible apply backK_r | with_reducible apply asgK_n | with_reducible apply rngK_x | with_reducible apply rngK_r | with_reducible apply True.intro | with_reducible apply And.intro True.intro True.intro)
    | (fail_if_success with_reducible apply K_id); (fail_if_success with_reducible apply awp_id); first | omega | (simp only [go_sem, seval, Am.S21, Am.sMade05, Am.sTol, Am.sRate, hAL, Am.dec1_row1, Am.dec3_row3, i1, i2, i5, i6]; done)
    | fail)
      · exact ⟨⟨i1, i2, i3, hin⟩, i5, i6⟩
      have hATe : AT = atOf ⟨drift, start, rates, rd, tol, rate, first, steps, sm⟩ := by rw [← hAT, hat]; rfl
      obtain ⟨x, hx⟩ : ∃ x : Sty, x = ⟨drift, start, rates, rd, tol, rate, first, steps, sm⟩ := ⟨_, rfl⟩
      rw [← hx] at hATe ⊢
      have hbt := @pick_bd tol 31 (by omega)
      refine awp_claimC (613, c + 1 + 1) 4 2 [.i 0, .i 0] (by omega) (by simp only [go_sem, seval] <;> eq_refl) ?_
      refine awp_loop (fun y : Nat × Nat × Int × List Sm => ⟨[(7, .i y.1), (6, .i y.2.2.1), (5, .box (613, c + 1 + 1) 0), (2, .box (1, 1) 0), (1, .box (0, 1) 0)],
          [(.c (613, c + 1 + 1) 0, .i (pickS drift 101)), (.c (613, c + 1 + 1) 1, .sl 3 false ((made05 drift start rates AT).map row3) [.i 0, .i 0, .i 0]), (.c (613, c + 1 + 1) 2, .i (pickS tol 31)), (.c (613, c + 1 + 1) 3, .i (pickS rate 21)), (.c (613, c + 1 + 1) 4, .own (0, c + 1 + 1 + 1 + 1 + 1) y.2.2.2.length),
           (.a (0, c + 1 + 1 + 1 + 1 + 1), .sl 2 true (y.2.2.2.map row2) [.i 0, .i 0]), (.c (1, 1) 0, .i 0), (.c (1, 1) 1, .sl 0 true [] []), (.c (1, 1) 2, .i 0), (.c (1, 1) 3, .i 0), (.c (1, 1) 4, .sl 0 true [] []),
           (.c (0, 1) 0, .i drift), (.c (0, 1) 1, .i start), (.c (0, 1) 2, .sl 1 f1 (rates.map row1) z1), (.c (0, 1) 3, .sl 3 f2 (rd.map row3) z2), (.c (0, 1) 4, .i tol), (.c (0, 1) 5, .i rate), (.c (0, 1) 6, .i first), (.c (0, 1) 7, .sl 1 f3 (steps.map row1) z3), (.c (0, 1) 8, .sl 2 f4 (sm.map row2) z4)], y.2.1⟩)
        (fun y => y.1 ≤ 12 ∧ y.1 ≤ sm.length ∧ 0 ≤ y.2.2.1 ∧ y.2.2.1 ≤ 31 * (y.1 : Int) ∧ y.2.2.2.length ≤ y.1 ∧ (y.2.2.1, y.2.2.2) = (sm.take y.1).foldl (stepS x) (0, [])) (fun y => 12 - y.1) (0, c + 50, 0, []) ?_ ?_ ?_
      · simp
      · refine Le.of ?_ ?_ (by simp; try omega) <;> (simp only [go_sem, seval]; try simp)
      · rintro ⟨i, c', t, S⟩ ⟨hi, hil, ht1, ht2, hSl, hS2⟩
        simp only at hi hil ht1 ht2 hSl hS2
        repeat' (first
    | ((first | with_reducible apply awp_sr5 | with_reducible apply awp_r5 | with_reducible apply awp_sd | with_reducible apply awp_d | with_reducible apply inlR_n5 | with_reducible apply inlR_r5); (· (first | exact Ctx.fn_ok hS | exact Ctx.rd_ok hS | assumption | exact True.intro)); iterate 2 (· (simp only [go_sem, seval] <;> eq_refl)))
    | (first | with_reducible apply awp_scp | with_reducible apply awp_sn | with_reducible apply awp_nop | with_reducible apply awp_ret | with_reducible apply awp_exit | with_reducible apply awp_block | with_reducible apply awp_seq | with_reducible apply seqK_n | with_reducible apply seqK_r | with_reducible apply seqK_x | with_reducible apply blkK_n | with_reducible apply blkK_r | with_reducible apply blkK_x)
    | (with_reducible apply blkK_y; (· first | rfl | decide))
    | (first | with_reducible apply backK_x | with_reducible apply backK_r | with_reducible apply asgK_n | with_reducible apply rngK_x | with_reducible apply rngK_r | with_reducible apply True.intro | with_reducible apply And.intro True.intro True.intro)
    | (fail_if_success with_reducible apply K_id); (fail_if_success with_reducible apply awp_id); first | omega | (simp only [go_sem, seval]; done)
    | fail)
        refine awp_cp ((i : Int) < sm.length ∧ (i : Int) < 12) (by simp only [go_sem, seval] <;> eq_refl) (by first | simp only [Bool.decide_or, Bool.decide_and, decide_not] | simp) (fun hc2 => ?_) (fun hc2 => ?_)
        · have hi' : i < sm.length := by omega
          obtain ⟨⟨p1, p2⟩, hr⟩ : ∃ r, sm[i] = r := ⟨_, rfl⟩
          have hget : sm[i]? = some (p1, p2) := by rw [List.getElem?_eq_getElem hi', hr]
          have hrow : rowAt (sm.map row2) z4 i = [.i p1, .i p2] := by
            simp [rowAt, List.getD_eq_getElem?_getD, hi', hr, row2]
          have hin := i9 (p1, p2) (by rw [← hr]; exact List.getElem_mem _)
          have hsucc := foldl_take_succ (stepS x) (0, []) sm i _ hget
          rw [← hS2] at hsucc
          have hp1 := @pick_bd p1 31 (by omega)
          have hp2 := @pick_bd p2 (2 * pickS tol 31 + 1) (by omega)
          have hvb := valueS_bd rate first steps (t + pickS p1 31).toNat
          have ht3 : 0 ≤ t + pickS p1 31 ∧ t + pickS p1 31 ≤ 100000 := by omega
          repeat' (first
    | ((first | with_reducible apply awp_sr5 | with_reducible apply awp_r5 | with_reducible apply awp_sd | with_reducible apply awp_d | with_reducible apply inlR_n5 | with_reducible apply inlR_r5); (· (first | exact Ctx.fn_ok hS | exact Ctx.rd_ok hS | assumption | exact True.intro)); iterate 2 (· (simp only [go_sem, seval, hrow, Am.S21, Am.sPick, Am.sShown, Am.sValue, Am.inI, Am.dec1_row1, Am.dec2_row2, Am.dec3_row3, hin.1.1, hin.1.2, i1.1, i1.2, i2.1, i2.2, i6.1, i6.2, i7.1, i7.2] <;> eq_refl)))
    | (first | with_reducible apply awp_scp | with_reducible apply awp_sn | with_reducible apply awp_nop | with_reducible apply awp_ret | with_reducible apply awp_exit | with_reducible apply awp_block | with_reducible apply awp_seq | with_reducible apply seqK_n | with_reducible apply seqK_r | with_reducible apply seqK_x | with_reducible apply blkK_n | with_reducible apply blkK_r | with_reducible apply blkK_x)
    | (with_reducible apply blkK_y; (· first | rfl | decide))
    | (first | with_reducible apply backK_x | with_reducible apply backK_r | with_reducible apply asgK_n | with_reducible apply rngK_x | with_reducible apply rngK_r | with_reducible apply True.intro | with_reducible apply And.intro True.intro True.intro)
    | (fail_if_success with_reducible apply K_id); (fail_if_success with_reducible apply awp_id); first | omega | (simp only [go_sem, seval, hrow, Am.S21, Am.sPick, Am.sShown, Am.sValue, Am.inI, Am.dec1_row1, Am.dec2_row2, Am.dec3_row3, hin.1.1, hin.1.2, i1.1, i1.2, i2.1, i2.2, i6.1, i6.2, i7.1, i7.2]; done)
    | fail)
          · exact ⟨⟨i3, ht3⟩, ⟨i8, ht3⟩, by omega⟩
          repeat' (first
    | ((first | with_reducible apply awp_sr5 | with_reducible apply awp_r5 | with_reducible apply awp_sd | with_reducible apply awp_d | with_reducible apply inlR_n5 | with_reducible apply inlR_r5); (· (first | exact Ctx.fn_ok hS | exact Ctx.rd_ok hS | assumption | exact True.intro)); iterate 2 (· (simp only [go_sem, seval, Am.rowAt_lastS] <;> eq_refl)))
    | (first | with_reducible apply awp_scp | with_reducible apply awp_sn | with_reducible apply awp_nop | with_reducible apply awp_ret | with_reducible apply awp_exit | with_reducible apply awp_block | with_reducible apply awp_seq | with_reducible apply seqK_n | with_reducible apply seqK_r | with_reducible apply seqK_x | with_reducible apply blkK_n | with_reducible apply blkK_r | with_reducible apply blkK_x)
    | (with_reducible apply blkK_y; (· first | rfl | decide))
    | (first | with_reducible apply backK_x | with_reducible apply backK_r | with_reducible apply asgK_n | with_reducible apply rngK_x | with_reducible apply rngK_r | with_reducible apply True.intro | with_reducible apply And.intro True.intro True.intro)
    | (fail_if_success with_reducible apply K_id); (fail_if_success with_reducible apply awp_id); first | omega | (simp only [go_sem, seval, Am.rowAt_lastS]; done)
    | fail)
          · refine ⟨?_, ?_, ?_⟩ <;> intro h <;> simp only [Bool.not_eq_true', decide_eq_false_iff_not] at h <;> omega
          obtain ⟨s1, hs1⟩ : ∃ s1, shownS drift start rates (t + pickS p1 31) = s1 := ⟨_, rfl⟩
          obtain ⟨s2, hs2⟩ : ∃ s2, valueS rate first steps (t + pickS p1 31).toNat + pickS p2 (2 * pickS tol 31 + 1) - pickS tol 31 = s2 := ⟨_, rfl⟩
          have hst : stepS x (t, S) (p1, p2) = (t + pickS p1 31, if S.length = 0 ∨ (lastS S).1 < s1 then S ++ [(s1, s2)] else S) := by
            simp only [stepS, hx, hs1, hs2]
          rw [hs1, hs2]
          refine awp_cp ((S.length : Int) = 0 ∨ (lastS S).1 < s1) (by simp only [go_sem, seval] <;> eq_refl) (by first | simp only [Bool.decide_or, Bool.decide_and, decide_not] | simp) (fun hc4 => ?_) (fun hc4 => ?_)
          · rw [if_pos (by omega)] at hst
            repeat' (first
    | ((first | with_reducible apply awp_sr5 | with_reducible apply awp_r5 | with_reducible apply awp_sd | with_reducible apply awp_d | with_reducible apply inlR_n5 | with_reducible apply inlR_r5); (· (first | exact Ctx.fn_ok hS | exact Ctx.rd_ok hS | assumption | exact True.intro)); iterate 2 (· (simp only [go_sem, seval] <;> eq_refl)))
    | (first | with_reducible apply awp_scp | with_reducible apply awp_sn | with_reducible apply awp_nop | with_reducible apply awp_ret | with_reducible apply awp_exit | with_reducible apply awp_block | with_reducible apply awp_seq | with_reducible apply seqK_n | with_reducible apply seqK_r | with_reducible apply seqK_x | with_reducible apply blkK_n | with_reducible apply blkK_r | with_reducible apply blkK_x)
    | (with_reducible apply blkK_y; (· first | rfl | decide))
    | (first | with_reducible apply backK_x | with_reducible apply backK_r | with_reducible apply asgK_n | with_reducible apply rngK_x | with_reducible apply rngK_r | with_reducible apply True.intro | with_reducible apply And.intro True.intro True.intro)
    | (fail_if_success with_reducible apply K_id); (fail_if_success with_reducible apply awp_id); first | omega | (simp only [go_sem, seval]; done)
    | fail)
            refine backK_n (i + 1, c' + 50, t + pickS p1 31, S ++ [(s1, s2)]) ⟨by dsimp only; omega, by dsimp only; omega, by dsimp only; omega, by dsimp only; omega, by dsimp only; simp; omega, by dsimp only; rw [hsucc, hst]⟩ (by show 12 - (i + 1) < 12 - i; omega) (Le.of ?_ ?_ ?_)
            · simp only [go_sem, seval] <;> simp
            · simp only [List.map_append, row2, go_sem, seval]
            · simp
          · rw [if_neg (by omega)] at hst
            repeat' (first
    | ((first | with_reducible apply awp_sr5 | with_reducible apply awp_r5 | with_reducible apply awp_sd | with_reducible apply awp_d | with_reducible apply inlR_n5 | with_reducible apply inlR_r5); (· (first | exact Ctx.fn_ok hS | exact Ctx.rd_ok hS | assumption | exact True.intro)); iterate 2 (· (simp only [go_sem, seval] <;> eq_refl)))
    | (first | with_reducible apply awp_scp | with_reducible apply awp_sn | with_reducible apply awp_nop | with_reducible apply awp_ret | with_reducible apply awp_exit | with_reducible apply awp_block | with_reducible apply awp_seq | with_reducible apply seqK_n | with_reducible apply seqK_r | with_reducible apply seqK_x | with_reducible apply blkK_n | with_reducible apply blkK_r | with_reducible apply blkK_x)
    | (with_reducible apply blkK_y; (· first | rfl | decide))
    | (first | with_reducible apply backK_x | with_reducible apply backK_r | with_reducible apply asgK_n | with_reducible apply rngK_x | with_reducible apply rngK_r | with_reducible apply True.intro | with_reducible apply And.intro True.intro True.intro)
    | (fail_if_success with_reducible apply K_id); (fail_if_success with_reducible apply awp_id); first | omega | (simp only [go_sem, seval]; done)
    | fail)
            refine backK_n (i + 1, c' + 50, t + pickS p1 31, S) ⟨by dsimp only; omega, by dsimp only; omega, by dsimp only; omega, by dsimp only; omega, by dsimp only; omega, by dsimp only; rw [hsucc, hst]⟩ (by show 12 - (i + 1) < 12 - i; omega) (Le.of ?_ ?_ ?_)
            · simp only [go_sem, seval] <;> simp
            · simp only [go_sem, seval]
            · simp
        · have hSS : S = (made24 x).S := by
            show S = ((x.sm.take 12).foldl (stepS x) (0, [])).2
            rw [show x.sm = sm from by rw [hx]]
            have : sm.take 12 = sm.take i := by
              rcases Nat.lt_or_ge i 12 with h | h
              · have h : sm.length ≤ i := by omega
                rw [List.take_of_length_le h, List.take_of_length_le (by omega)]
              · have : i = 12 := by omega
                rw [this]
            rw [this, ← hS2]
          repeat' (first
    | ((first | with_reducible apply awp_sr5 | with_reducible apply awp_r5 | with_reducible apply awp_sd | with_reducible apply awp_d | with_reducible apply inlR_n5 | with_reducible apply inlR_r5); (· (first | exact Ctx.fn_ok hS | exact Ctx.rd_ok hS | assumption | exact True.intro)); iterate 2 (· (simp only [go_sem, seval] <;> eq_refl)))
    | (first | with_reducible apply awp_scp | with_reducible apply awp_sn | with_reducible apply awp_nop | with_reducible apply awp_ret | with_reducible apply awp_exit | with_reducible apply awp_block | with_reducible apply awp_seq | with_reducible apply seqK_n | with_reducible apply seqK_r | with_reducible apply seqK_x | with_reducible apply blkK_n | with_reducible apply blkK_r | with_reducible apply blkK_x)
    | (with_reducible apply blkK_y; (· first | rfl | decide))
    | (first | with_reducible apply backK_x | with_reducible apply backK_r | with_reducible apply asgK_n | with_reducible apply rngK_x | with_reducible apply rngK_r | with_reducible apply True.intro | with_reducible apply And.intro True.intro True.intro)
    | (fail_if_success with_reducible apply K_id); (fail_if_success with_reducible apply awp_id); first | omega | (simp only [go_sem, seval]; done)
    | fail)
          first | refine endK_r (by simp only [go_sem, seval] <;> eq_refl) (by simp only [go_sem, seval]) (by simp only [go_sem, seval]) ?_ rfl | refine endK_n (by simp only [go_sem, seval] <;> eq_refl) (by simp only [go_sem, seval]) (by simp only [go_sem, seval]) ?_ rfl
          simp only [gCells, ← hSS, go_sem, seval]
          simp [made24, hx, hATe]
end Go.Proofs.Ytmmfbjmjhjmccaa.Am
