/-
  Plain laws: alarms follow from bounds.
-/
import Derived.Test.YtmmfbjmjhjmccaaM5
import Derived.Test.YtmmfbjmjhjmccaaD4
namespace Go.Proofs.Ytmmfbjmjhjmccaa.Am
set_option linter.unusedSimpArgs false
set_option linter.unusedVariables false
open Go
attribute [local irreducible] made05 made24
theorem wrap_id {n : Int} (h : -9223372036854775808 ≤ n ∧ n ≤ 9223372036854775807) : IntKind.wrap .i64 n = n := inR_wrap (k := .i64) h
/-- A bent gauge is a gauge. -/
theorem bent_total (N : Nat) (d : Int) (R : List Rd3) (tol rate : Int) (S : List Sm) (how n at_ : Int) (hS : S.length ≤ 12) (h1 : inI how) (h2 : inI at_) :
    ∃ d' R' tol' rate' S', D_putlogref24_Bent N d R tol rate S how n at_ = some ((d', R'), tol', rate', S') ∧ S'.length ≤ 13 := by
  unfold D_putlogref24_Bent
  rw [gd_of (by omega)]
  simp only [Bool.cond_eq_ite, decide_eq_true_eq]
  split
  · have hp := @pick_bd at_ 1 (by omega)
    have e : pickS at_ 1 = 0 := by omega
    have n0 : nth [(n, at_)] 0 = some (n, at_) := rfl
    have w0 : nth [(n, at_)] (IntKind.wrap .i64 0) = some (n, at_) := by rw [wrap_id (by omega)]; rfl
    simp only [gd_of h2, gd_of h1, Option.bind_some, e, n0, w0]
    repeat' split
    all_goals exact ⟨_, _, _, _, _, rfl, by simp⟩
  · rename_i h0
    have hpos : (0 : Int) < (S.length : Int) := by omega
    have hp := @pick_bd at_ S.length hpos
    obtain ⟨⟨a, b⟩, hab⟩ : ∃ z, S.getD (pickS at_ S.length).toNat (0, 0) = z := ⟨_, rfl⟩
    obtain ⟨⟨a', b'⟩, hab'⟩ : ∃ z, S.getD ((S.length : Int) - 1).toNat (0, 0) = z := ⟨_, rfl⟩
    have n1 := nth_of (l := S) (0, 0) hp.1 hp.2
    have n2 := nth_of (l := S) (i := (S.length : Int) - 1) (0, 0) (by omega) (by omega)
    rw [hab] at n1
    rw [hab'] at n2
    have g1 : (S.length + 1) * 16 ≤ 140737488355328 := by omega
    simp only [gd_of h2, gd_of hpos, gd_of h1, Option.bind_some, n1, wrap_id (show -9223372036854775808 ≤ (S.length : Int) - 1 ∧ (S.length : Int) - 1 ≤ 9223372036854775807 by omega), n2, gd_of g1]
    repeat' split
    all_goals exact ⟨_, _, _, _, _, rfl, by first | omega | (simp; omega)⟩

theorem bounds_bad {g : Ga} (h : validG g = false) (t : Int) : boundsS g t = (0, 0, 240) := by
  have hf : foundS g t = ((0, 0, 0, 0), false) := by unfold foundS; rw [if_neg (by rw [h]; simp)]
  unfold boundsS
  rw [hf]
  rfl
theorem bounds_val {g : Ga} (h : validG g = true) {t : Int} (ht : 0 ≤ t ∧ t ≤ 10000000) : boundsS g t = if (lookS g.rate t (factsG g)).1 ≤ (lookS g.rate t (factsG g)).2.1 then ((lookS g.rate t (factsG g)).1, (lookS g.rate t (factsG g)).2.1, 0) else (0, 0, 240) := by
  have hf : foundS g t = (lookS g.rate t (factsG g), decide ((lookS g.rate t (factsG g)).1 ≤ (lookS g.rate t (factsG g)).2.1)) := by unfold foundS; rw [if_pos ⟨h, ht⟩]
  unfold boundsS
  rw [hf]
  simp only [decide_eq_true_eq]

attribute [local irreducible] boundsS alarmS overS
theorem alarms_step (N : Nat) (fr q : Int) (G : Ga) (k : Int) (n : Nat) (s m : Int) (bad : Bool) (i : Int) (hl : G.S.length ≤ 1000) (hi : 0 ≤ i ∧ i ≤ 10000) :
    D_putloglaw24_MonitorAlarms_L1 N fr q G.S G.d G.R G.tol G.rate k (n + 1) s m bad i = if i < fr + 1 + q then
      D_putloglaw24_MonitorAlarms_L1 N fr q G.S G.d G.R G.tol G.rate k n (if (boundsS G i).2.2 = 0 ∧ k - 1500 < (boundsS G i).1 ∧ s < 0 then i else s) (if (boundsS G i).2.2 = 0 ∧ k - 1500 < (boundsS G i).2.1 ∧ m < 0 then i else m) (bad || decide ((boundsS G i).2.2 ≠ 0)) (i + 1)
      else some (s, m, bad) := by
  rw [D_putloglaw24_MonitorAlarms_L1]
  obtain ⟨d, R, tol, rate, S⟩ := G
  simp only at hl ⊢
  obtain ⟨⟨a, b, e⟩, hB⟩ : ∃ B, boundsS ⟨d, R, tol, rate, S⟩ i = B := ⟨_, rfl⟩
  have g3 : I64 (i + 1) := by unfold I64; omega
  simp only [hB, gd_of hl, Option.bind_some, gd_of g3, Bool.cond_eq_ite, Bool.and_eq_true, decide_eq_true_eq, and_assoc]
  split
  · split <;> split <;> rfl
  · rfl

theorem alarms_L1 (N : Nat) (fr q : Int) (G : Ga) (k : Int) (hl : G.S.length ≤ 1000) (hf : 0 ≤ fr ∧ fr ≤ 1000) (hq : 0 ≤ q ∧ q ≤ 100) : ∀ (n : Nat) (i s m : Int) (bad : Bool), fr ≤ i → i ≤ fr + 1 + q → fr + 1 + q - i < n → (0 ≤ s → 0 ≤ m) →
    ∃ s' m' bad', D_putloglaw24_MonitorAlarms_L1 N fr q G.S G.d G.R G.tol G.rate k n s m bad i = some (s', m', bad') ∧ (bad = true → bad' = true) ∧
      (validG G = false → i < fr + 1 + q → bad' = true) ∧
      (validG G = true → (bad' = false → watchS G.rate (factsG G) (k - 1500) (fr + 1 + q - i).toNat i s m = some (s', m') ∧ (0 ≤ s' → 0 ≤ m')) ∧ (bad' = true → bad = true ∨ watchS G.rate (factsG G) (k - 1500) (fr + 1 + q - i).toNat i s m = none))
  | 0, i, s, m, bad, h1, h2, h3, h4 => by omega
  | n + 1, i, s, m, bad, h1, h2, h3, h4 => by
    rw [alarms_step N fr q G k n s m bad i hl (by omega)]
    by_cases hi : i < fr + 1 + q
    · rw [if_pos hi]
      have ew : (fr + 1 + q - i).toNat = (fr + 1 + q - (i + 1)).toNat + 1 := by omega
      cases hv : validG G with
      | false =>
        rw [bounds_bad hv]
        simp only [Int.reduceEq, false_and, if_false, ne_eq, not_false_eq_true, decide_true, Bool.or_true]
        obtain ⟨s', m', bad', e1, e2, e3, e4⟩ := alarms_L1 N fr q G k hl hf hq n (i + 1) s m true (by omega) (by omega) (by omega) h4
        exact ⟨s', m', bad', e1, fun _ => e2 rfl, fun _ _ => e2 rfl, (by intro h; cases h)⟩
      | true =>
        rw [ew]
        simp only [watchS]
        by_cases hc : (lookS G.rate i (factsG G)).2.1 < (lookS G.rate i (factsG G)).1
        · have hB : boundsS G i = (0, 0, 240) := by rw [bounds_val hv (by omega), if_neg (by omega)]
          rw [hB]
          simp only [Int.reduceEq, false_and, if_false, ne_eq, not_false_eq_true, decide_true, Bool.or_true, if_pos hc]
          obtain ⟨s', m', bad', e1, e2, e3, e4⟩ := alarms_L1 N fr q G k hl hf hq n (i + 1) s m true (by omega) (by omega) (by omega) h4
          exact ⟨s', m', bad', e1, fun _ => e2 rfl, (by intro h; cases h), fun _ => ⟨(by intro h; rw [e2 rfl] at h; cases h), fun _ => .inr (by trivial)⟩⟩
        · have hB : boundsS G i = ((lookS G.rate i (factsG G)).1, (lookS G.rate i (factsG G)).2.1, 0) := by rw [bounds_val hv (by omega), if_pos (by omega)]
          rw [hB]
          simp only [true_and, ne_eq, not_true_eq_false, decide_false, Bool.or_false, if_neg hc]
          obtain ⟨s', m', bad', e1, e2, e3, e4⟩ := alarms_L1 N fr q G k hl hf hq n (i + 1) (if k - 1500 < (lookS G.rate i (factsG G)).1 ∧ s < 0 then i else s) (if k - 1500 < (lookS G.rate i (factsG G)).2.1 ∧ m < 0 then i else m) bad (by omega) (by omega) (by omega) (by split <;> split <;> omega)
          exact ⟨s', m', bad', e1, e2, (by intro h; cases h), fun _ => e4 hv⟩
    · rw [if_neg hi]
      have ew : (fr + 1 + q - i).toNat = 0 := by omega
      rw [ew]
      exact ⟨s, m, bad, rfl, id, fun _ h => absurd h hi, fun _ => ⟨fun _ => ⟨rfl, h4⟩, fun h => .inl h⟩⟩

theorem pureAlarms (x : Sty) (hx : x.In) (b0 b1 b2 limit fro many : Int) (h0 : inI b0) (h1 : inI b1) (h2 : inI b2) (h3 : inI limit) (h4 : inI fro) (h5 : inI many) : D_putloglaw24_MonitorAlarms 3000 x.drift x.start x.rates x.rd x.tol x.rate x.first x.steps x.sm b0 b1 b2 limit fro many = some true := by
  have p3 := @pick_bd limit 3001 (by omega)
  have p4 := @pick_bd fro 400 (by omega)
  have p5 := @pick_bd many 40 (by omega)
  unfold D_putloglaw24_MonitorAlarms
  obtain ⟨k, hk⟩ : ∃ s, pickS limit 3001 = s := ⟨_, rfl⟩
  obtain ⟨fr, hf⟩ : ∃ s, pickS fro 400 = s := ⟨_, rfl⟩
  obtain ⟨q, hq⟩ : ∃ s, pickS many 40 = s := ⟨_, rfl⟩
  rw [hk] at p3; rw [hf] at p4; rw [hq] at p5
  have hlA := (made24_S x).1
  obtain ⟨d, R, tol, rate, S, hG, hGl⟩ := bent_total 3000 (made24 x).d (made24 x).R (made24 x).tol (made24 x).rate (made24 x).S b0 b1 b2 hlA h0 h2
  obtain ⟨s, m, bad, e1, _, e3, e4⟩ := alarms_L1 3000 fr q ⟨d, R, tol, rate, S⟩ k (by simp only; omega) (by omega) (by omega) 3000 fr (-1) (-1) false (by omega) (by omega) (by omega) (by omega)
  simp only at e1
  have i4 : I64 (fr + 1) := by unfold I64; omega
  have i5 : I64 (fr + 1 + q) := by unfold I64; omega
  have i6 : I64 (k - 1500) := by unfold I64; omega
  have i8 : -9223372036854775808 ≤ fr := by omega
  have i9 : fr + 1 + q ≤ 9223372036854775807 := by omega
  have l1 : S.length ≤ 1000 := by omega
  have key : (bad = true ∧ alarmS ⟨d, R, tol, rate, S⟩ (k - 1500) fr (fr + 1 + q) = (0, 0, 240)) ∨ (bad = false ∧ alarmS ⟨d, R, tol, rate, S⟩ (k - 1500) fr (fr + 1 + q) = (s, m, 0) ∧ (0 ≤ s → 0 ≤ m)) := by
    cases hv : validG ⟨d, R, tol, rate, S⟩ with
    | false =>
      refine .inl ⟨e3 hv (by omega), ?_⟩
      unfold alarmS
      rw [if_pos (.inl hv)]
    | true =>
      have hnb : ¬ alarmBad ⟨d, R, tol, rate, S⟩ fr (fr + 1 + q) := by unfold alarmBad; rw [hv]; simp; omega
      obtain ⟨f1, f2⟩ := e4 hv
      cases hb : bad with
      | true =>
        refine .inl ⟨rfl, ?_⟩
        rcases f2 hb with h | h
        · cases h
        · unfold alarmS
          rw [if_neg hnb, h]
      | false =>
        obtain ⟨f3, f4⟩ := f1 hb
        refine .inr ⟨rfl, ?_, f4⟩
        unfold alarmS
        rw [if_neg hnb, f3]
  have ov : overS ⟨d, R, tol, rate, S⟩ (k - 1500) fr (fr + 1 + q) = if (alarmS ⟨d, R, tol, rate, S⟩ (k - 1500) fr (fr + 1 + q)).2.2 ≠ 0 then (0, (alarmS ⟨d, R, tol, rate, S⟩ (k - 1500) fr (fr + 1 + q)).2.2) else if 0 ≤ (alarmS ⟨d, R, tol, rate, S⟩ (k - 1500) fr (fr + 1 + q)).1 then (2, 0) else if 0 ≤ (alarmS ⟨d, R, tol, rate, S⟩ (k - 1500) fr (fr + 1 + q)).2.1 then (1, 0) else (0, 0) := by
    unfold overS; rfl
  obtain ⟨A, hA⟩ : ∃ A, made24 ⟨x.drift, x.start, x.rates, x.rd, x.tol, x.rate, x.first, x.steps, x.sm⟩ = A := ⟨_, rfl⟩
  have hA' : made24 x = A := hA
  rw [hA'] at hG
  simp only [gd_of hx.drift, gd_of hx.start, gd_of hx.rates, gd_of hx.rd, gd_of hx.tol, gd_of hx.rate, gd_of hx.first, gd_of hx.steps, gd_of hx.sm, hA, Option.bind_some, hG, gd_of h4, hf, gd_of i4, gd_of h5, hq, gd_of i5, gd_of h3, hk, gd_of i6, e1, gd_of l1, gd_of i8, gd_of i9, ov]
  rcases key with ⟨kb, ka⟩ | ⟨kb, ka, km⟩
  · rw [kb, ka]
    rfl
  · rw [kb, ka]
    simp only [cond_false, ne_eq, not_true_eq_false, if_false, decide_true, Bool.true_and]
    by_cases hs : 0 ≤ s
    · have := km hs
      simp [hs, this]
    · by_cases hm : 0 ≤ m
      · simp [hs, hm]
      · simp [hs, hm]
end Go.Proofs.Ytmmfbjmjhjmccaa.Am
