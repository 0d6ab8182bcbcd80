import Derived.Test.YtmmfbjmjhjmccaaP11
import Derived.Test.YtmmfbjmjhjmccaaM3
import Derived.Test.YtmmfbjmjhjmccaaA7
namespace Go.Proofs.Ytmmfbjmjhjmccaa.Am
open Go
attribute [local irreducible] awp seqK blkK backK endK inlK restK rngK asgK itK
set_option maxRecDepth 100000
set_option maxHeartbeats 8000000
set_option linter.unusedSimpArgs false
set_option linter.unusedVariables false
attribute [local irreducible] made24 foundS valueS
/-! ### Arguments of laws -/
abbrev shSt : List Cs := [.i, .i, .s [.i], .s [.i, .i, .i], .i, .i, .i, .s [.i], .s [.i, .i]]
theorem rows1_of {rows : List (List AV)} (h : ∀ r ∈ rows, CellsOK [.i] r) : ∃ l : List Int, rows = l.map row1 ∧ ∀ n ∈ l, inI n := by
  induction rows with
  | nil => exact ⟨[], rfl, by simp⟩
  | cons r rows ih =>
    obtain ⟨l, rfl, h2⟩ := ih fun r hr => h r (by simp [hr])
    have := h r (by simp)
    simp only [CellsOK, CellOK] at this
    obtain ⟨a, _, rfl, ⟨n, hn, rfl⟩, rfl⟩ := this
    exact ⟨n :: l, rfl, fun m hm => by rcases List.mem_cons.1 hm with rfl | hm; exact hn; exact h2 m hm⟩
theorem rows2_of {rows : List (List AV)} (h : ∀ r ∈ rows, CellsOK [.i, .i] r) : ∃ l : List Sm, rows = l.map row2 ∧ ∀ n ∈ l, inI n.1 ∧ inI n.2 := by
  induction rows with
  | nil => exact ⟨[], rfl, by simp⟩
  | cons r rows ih =>
    obtain ⟨l, rfl, h2⟩ := ih fun r hr => h r (by simp [hr])
    have := h r (by simp)
    simp only [CellsOK, CellOK] at this
    obtain ⟨a, _, rfl, ⟨n, hn, rfl⟩, b, _, rfl, ⟨n', hn', rfl⟩, rfl⟩ := this
    exact ⟨(n, n') :: l, rfl, fun m hm => by rcases List.mem_cons.1 hm with rfl | hm; exact ⟨hn, hn'⟩; exact h2 m hm⟩
theorem rows3_of {rows : List (List AV)} (h : ∀ r ∈ rows, CellsOK [.i, .i, .i] r) : ∃ l : List Rd3, rows = l.map row3 ∧ ∀ n ∈ l, inI n.1 ∧ inI n.2.1 ∧ inI n.2.2 := by
  induction rows with
  | nil => exact ⟨[], rfl, by simp⟩
  | cons r rows ih =>
    obtain ⟨l, rfl, h2⟩ := ih fun r hr => h r (by simp [hr])
    have := h r (by simp)
    simp only [CellsOK, CellOK] at this
    obtain ⟨a, _, rfl, ⟨n, hn, rfl⟩, b, _, rfl, ⟨n', hn', rfl⟩, c, _, rfl, ⟨n'', hn'', rfl⟩, rfl⟩ := this
    exact ⟨(n, n', n'') :: l, rfl, fun m hm => by rcases List.mem_cons.1 hm with rfl | hm; exact ⟨hn, hn', hn''⟩; exact h2 m hm⟩
theorem story_of {a : AV} (h : ArgOK (true, shSt) a) : ∃ x : Sty, x.In ∧ a = .agg (stCells x false false false false [] [] [] []) := by
  simp only [ArgOK] at h
  obtain ⟨cs, rfl, h⟩ := h
  simp only [CellsOK, CellOK] at h
  obtain ⟨_, _, rfl, ⟨n1, h1, rfl⟩, _, _, rfl, ⟨n2, h2, rfl⟩, _, _, rfl, ⟨r3, rfl, h3⟩, _, _, rfl, ⟨r4, rfl, h4⟩, _, _, rfl, ⟨n5, h5, rfl⟩, _, _, rfl, ⟨n6, h6, rfl⟩, _, _, rfl, ⟨n7, h7, rfl⟩, _, _, rfl, ⟨r8, rfl, h8⟩, _, _, rfl, ⟨r9, rfl, h9⟩, rfl⟩ := h
  obtain ⟨l3, rfl, k3⟩ := rows1_of (by simpa only [CellsOK, CellOK] using h3)
  obtain ⟨l4, rfl, k4⟩ := rows3_of (by simpa only [CellsOK, CellOK] using h4)
  obtain ⟨l8, rfl, k8⟩ := rows1_of (by simpa only [CellsOK, CellOK] using h8)
  obtain ⟨l9, rfl, k9⟩ := rows2_of (by simpa only [CellsOK, CellOK] using h9)
  exact ⟨⟨n1, n2, l3, l4, n5, n6, n7, l8, l9⟩, ⟨h1, h2, k3, k4, h5, h6, h7, k8, k9⟩, rfl⟩
theorem int_of {a : AV} (h : ArgOK (false, [.i]) a) : ∃ n, inI n ∧ a = .i n := by
  simp only [ArgOK, CellsOK, CellOK] at h
  obtain ⟨_, _, e, ⟨n, hn, rfl⟩, rfl⟩ := h
  simp at e
  exact ⟨n, hn, e⟩

def S40 : List (Nat × Spec) := [(11, sSane), (12, sMade24), (15, sPick), (28, sValue), (18, sBounds), (22, sBoth)]
theorem S40_ok : TabOK Try.prog (tabOf S40) := tab_cons sane_fok (tab_cons made24_fok (tab_cons pick_fok (tab_cons value_fok (tab_cons bounds_fok (tab_cons both_fok tab_nil)))))

/-- The bounds of a story's gauge. -/
theorem bounds_sound (x : Sty) {t : Int} (ht : 0 ≤ t ∧ t ≤ 10000) : ∃ l h, boundsS (made24 x) t = (l, h, 0) ∧ (foundS (made24 x) t).2 = true ∧ (foundS (made24 x) t).1.1 = l ∧ (foundS (made24 x) t).1.2.1 = h ∧ l ≤ valueS x.rate x.first x.steps t.toNat ∧ valueS x.rate x.first x.steps t.toNat ≤ h := by
  obtain ⟨h1, h2, h3⟩ := found_sound x ht
  refine ⟨_, _, ?_, by rw [h1], rfl, rfl, by rw [h1]; exact h2, by rw [h1]; exact h3⟩
  unfold boundsS
  rw [h1]
  rfl
theorem both_sound {A B : Ga} {t l h l' h' v : Int} (hA : (foundS A t).2 = true) (hA1 : (foundS A t).1.1 = l) (hA2 : (foundS A t).1.2.1 = h) (hB : (foundS B t).2 = true) (hB1 : (foundS B t).1.1 = l') (hB2 : (foundS B t).1.2.1 = h') (h1 : l ≤ v) (h2 : v ≤ h) (h3 : l' ≤ v) (h4 : v ≤ h') :
    bothS A B t = (max l l', min h h', 0) := by
  unfold bothS
  rw [hA1, hA2, hB1, hB2, if_pos ⟨hA, hB, by omega⟩]

/-- MonitorBoth. -/
theorem lawBoth (x y : Sty) (hx : x.In) (hy : y.In) (t : Int) (ht : inI t) : PCall Try.prog 8 [.agg (stCells x false false false false [] [] [] []), .agg (stCells y false false false false [] [] [] []), .i t] (.b true) := by
  refine pcall_fn S40_ok _ Try.func8 ok8 nt8 (by simp) fun _ => ?_
  have hS := S40_ok
  unfold ac8 rv8
  have hx1 : Sty.In ⟨x.drift, x.start, x.rates, x.rd, x.tol, x.rate, x.first, x.steps, x.sm⟩ := hx
  have hy1 : Sty.In ⟨y.drift, y.start, y.rates, y.rd, y.tol, x.rate, x.first, x.steps, y.sm⟩ := ⟨hy.drift, hy.start, hy.rates, hy.rd, hy.tol, hx.rate, hx.first, hx.steps, hy.sm⟩
  have hpt := @pick_bd t 400 (by omega)
  obtain ⟨s, hs⟩ : ∃ s, pickS t 400 = s := ⟨_, rfl⟩
  rw [hs] at hpt
  have hlA := (made24_S x).1
  have hlB := (made24_S ⟨y.drift, y.start, y.rates, y.rd, y.tol, x.rate, x.first, x.steps, y.sm⟩).1
  obtain ⟨l, h, a1, a2, a3, a4, a5, a6⟩ := bounds_sound x (t := s) (by omega)
  obtain ⟨l', h', b1, b2, b3, b4, b5, b6⟩ := bounds_sound ⟨y.drift, y.start, y.rates, y.rd, y.tol, x.rate, x.first, x.steps, y.sm⟩ (t := s) (by omega)
  simp only at b5 b6
  obtain ⟨v, hv⟩ : ∃ v, valueS x.rate x.first x.steps s.toNat = v := ⟨_, rfl⟩
  rw [hv] at a5 a6 b5 b6
  obtain ⟨A, hA⟩ : ∃ A, made24 ⟨x.drift, x.start, x.rates, x.rd, x.tol, x.rate, x.first, x.steps, x.sm⟩ = A := ⟨_, rfl⟩
  have hA' : made24 x = A := hA
  obtain ⟨B, hB⟩ : ∃ B, made24 ⟨y.drift, y.start, y.rates, y.rd, y.tol, x.rate, x.first, x.steps, y.sm⟩ = B := ⟨_, rfl⟩
  rw [hA'] at hlA a1 a2 a3 a4
  rw [hB] at hlB b1 b2 b3 b4
  have c1 := both_sound a2 a3 a4 b2 b3 b4 a5 a6 b5 b6
  have c2 := both_sound b2 b3 b4 a2 a3 a4 b5 b6 a5 a6
  have lA : A.S.length ≤ 1000 := by omega
  have lB : B.S.length ≤ 1000 := by omega
  obtain ⟨d, R, tol, rate, S⟩ := A
  obtain ⟨d', R', tol', rate', S'⟩ := B
  simp only at lA lB
  simp only [stCells]
  repeat' (first
    | ((first | with_reducible apply awp_sr5 | with_reducible apply awp_r5 | with_reducible apply awp_sd | with_reducible apply awp_d | with_reducible apply inlR_n5 | with_reducible apply inlR_r5); (· (first | exact Ctx.fn_ok hS | exact Ctx.rd_ok hS | assumption | exact True.intro)); iterate 2 (· (simp only [go_sem, reduceCtorEq, reduceIte, Nat.reduceAdd, Nat.reduceMul, Nat.reduceEqDiff, Nat.reduceLeDiff, Nat.reduceSub, Nat.reduceLT, Nat.reduceGT, Int.reduceLE, Int.reduceLT, Int.reduceEq, Int.reduceNeg, Int.reduceAdd, Int.reduceSub, Int.reduceToNat, Am.S40, Am.sSane] <;> eq_refl)))
    | (first | with_reducible apply awp_scp | with_reducible apply awp_sn | with_reducible apply awp_nop | with_reducible apply awp_ret | with_reducible apply awp_exit | with_reducible apply awp_block | with_reducible apply awp_seq | with_reducible apply seqK_n | with_reducible apply seqK_r | with_reducible apply seqK_x | with_reducible apply blkK_n | with_reducible apply blkK_r | with_reducible apply blkK_x)
    | (with_reducible apply blkK_y; (· first | rfl | decide))
    | (first | with_reducible apply backK_x | with_reducible apply backK_r | with_reducible apply asgK_n | with_reducible apply rngK_x | with_reducible apply rngK_r | with_reducible apply True.intro | with_reducible apply And.intro True.intro True.intro)
    | (fail_if_success with_reducible apply K_id); (fail_if_success with_reducible apply awp_id); first | omega | (simp only [go_sem, reduceCtorEq, reduceIte, Nat.reduceAdd, Nat.reduceMul, Nat.reduceEqDiff, Nat.reduceLeDiff, Nat.reduceSub, Nat.reduceLT, Nat.reduceGT, Int.reduceLE, Int.reduceLT, Int.reduceEq, Int.reduceNeg, Int.reduceAdd, Int.reduceSub, Int.reduceToNat, Am.S40, Am.sSane]; done)
    | fail)
  refine awp_cf (by simp only [go_sem, reduceCtorEq, reduceIte, Nat.reduceAdd, Nat.reduceMul, Nat.reduceEqDiff, Nat.reduceLeDiff, Nat.reduceSub, Nat.reduceLT, Nat.reduceGT, Int.reduceLE, Int.reduceLT, Int.reduceEq, Int.reduceNeg, Int.reduceAdd, Int.reduceSub, Int.reduceToNat] <;> eq_refl) ?_
  repeat' (first
    | ((first | with_reducible apply awp_sr5 | with_reducible apply awp_r5 | with_reducible apply awp_sd | with_reducible apply awp_d | with_reducible apply inlR_n5 | with_reducible apply inlR_r5); (· (first | exact Ctx.fn_ok hS | exact Ctx.rd_ok hS | assumption | exact True.intro)); iterate 2 (· (simp only [go_sem, reduceCtorEq, reduceIte, Nat.reduceAdd, Nat.reduceMul, Nat.reduceEqDiff, Nat.reduceLeDiff, Nat.reduceSub, Nat.reduceLT, Nat.reduceGT, Int.reduceLE, Int.reduceLT, Int.reduceEq, Int.reduceNeg, Int.reduceAdd, Int.reduceSub, Int.reduceToNat, Am.S40, Am.sMade24, Am.dec1_row1, Am.dec2_row2, Am.dec3_row3, Am.gCells, hx1, hy1, hA, hB, Am.sPick, ht, hs, Am.sValue, hv, Am.sBounds, Am.sBoth, Am.gP, Am.tup3, lA, lB, a1, b1, c1, c2] <;> eq_refl)))
    | (first | with_reducible apply awp_scp | with_reducible apply awp_sn | with_reducible apply awp_nop | with_reducible apply awp_ret | with_reducible apply awp_exit | with_reducible apply awp_block | with_reducible apply awp_seq | with_reducible apply seqK_n | with_reducible apply seqK_r | with_reducible apply seqK_x | with_reducible apply blkK_n | with_reducible apply blkK_r | with_reducible apply blkK_x)
    | (with_reducible apply blkK_y; (· first | rfl | decide))
    | (first | with_reducible apply backK_x | with_reducible apply backK_r | with_reducible apply asgK_n | with_reducible apply rngK_x | with_reducible apply rngK_r | with_reducible apply True.intro | with_reducible apply And.intro True.intro True.intro)
    | (fail_if_success with_reducible apply K_id); (fail_if_success with_reducible apply awp_id); first | omega | (simp only [go_sem, reduceCtorEq, reduceIte, Nat.reduceAdd, Nat.reduceMul, Nat.reduceEqDiff, Nat.reduceLeDiff, Nat.reduceSub, Nat.reduceLT, Nat.reduceGT, Int.reduceLE, Int.reduceLT, Int.reduceEq, Int.reduceNeg, Int.reduceAdd, Int.reduceSub, Int.reduceToNat, Am.S40, Am.sMade24, Am.dec1_row1, Am.dec2_row2, Am.dec3_row3, Am.gCells, hx1, hy1, hA, hB, Am.sPick, ht, hs, Am.sValue, hv, Am.sBounds, Am.sBoth, Am.gP, Am.tup3, lA, lB, a1, b1, c1, c2]; done)
    | fail)
  · exact ⟨hx.rate, hx.first, hx.steps, by omega, by omega⟩
  have fin : ∀ b : Bool, b = true → AV.v (Value.bool b) = AV.b true := fun b h => by rw [h]
  first | refine endK_r (by simp only [go_sem, reduceCtorEq, reduceIte, Nat.reduceAdd, Nat.reduceMul, Nat.reduceEqDiff, Nat.reduceLeDiff, Nat.reduceSub, Nat.reduceLT, Nat.reduceGT, Int.reduceLE, Int.reduceLT, Int.reduceEq, Int.reduceNeg, Int.reduceAdd, Int.reduceSub, Int.reduceToNat] <;> eq_refl) (by simp only [go_sem, reduceCtorEq, reduceIte, Nat.reduceAdd, Nat.reduceMul, Nat.reduceEqDiff, Nat.reduceLeDiff, Nat.reduceSub, Nat.reduceLT, Nat.reduceGT, Int.reduceLE, Int.reduceLT, Int.reduceEq, Int.reduceNeg, Int.reduceAdd, Int.reduceSub, Int.reduceToNat]) (by simp only [go_sem, reduceCtorEq, reduceIte, Nat.reduceAdd, Nat.reduceMul, Nat.reduceEqDiff, Nat.reduceLeDiff, Nat.reduceSub, Nat.reduceLT, Nat.reduceGT, Int.reduceLE, Int.reduceLT, Int.reduceEq, Int.reduceNeg, Int.reduceAdd, Int.reduceSub, Int.reduceToNat]) ?_ rfl | refine endK_n (by simp only [go_sem, reduceCtorEq, reduceIte, Nat.reduceAdd, Nat.reduceMul, Nat.reduceEqDiff, Nat.reduceLeDiff, Nat.reduceSub, Nat.reduceLT, Nat.reduceGT, Int.reduceLE, Int.reduceLT, Int.reduceEq, Int.reduceNeg, Int.reduceAdd, Int.reduceSub, Int.reduceToNat] <;> eq_refl) (by simp only [go_sem, reduceCtorEq, reduceIte, Nat.reduceAdd, Nat.reduceMul, Nat.reduceEqDiff, Nat.reduceLeDiff, Nat.reduceSub, Nat.reduceLT, Nat.reduceGT, Int.reduceLE, Int.reduceLT, Int.reduceEq, Int.reduceNeg, Int.reduceAdd, Int.reduceSub, Int.reduceToNat]) (by simp only [go_sem, reduceCtorEq, reduceIte, Nat.reduceAdd, Nat.reduceMul, Nat.reduceEqDiff, Nat.reduceLeDiff, Nat.reduceSub, Nat.reduceLT, Nat.reduceGT, Int.reduceLE, Int.reduceLT, Int.reduceEq, Int.reduceNeg, Int.reduceAdd, Int.reduceSub, Int.reduceToNat]) ?_ rfl
  simp only [go_sem, reduceCtorEq, reduceIte, Nat.reduceAdd, Nat.reduceMul, Nat.reduceEqDiff, Nat.reduceLeDiff, Nat.reduceSub, Nat.reduceLT, Nat.reduceGT, Int.reduceLE, Int.reduceLT, Int.reduceEq, Int.reduceNeg, Int.reduceAdd, Int.reduceSub, Int.reduceToNat]
  refine fin _ ?_
  simp only [Bool.and_eq_true, decide_eq_true_eq]
  omega
end Go.Proofs.Ytmmfbjmjhjmccaa.Am
