/-
  Plain law: MonitorMatchesReference: the program's functions and the reference's compute the same of each of the four gauges.
-/
import Derived.Test.YtmmfbjmjhjmccaaD6
import Derived.Test.YtmmfbjmjhjmccaaM17
import Derived.Test.YtmmfbjmjhjmccaaM18
import Derived.Test.YtmmfbjmjhjmccaaM15
namespace Go.Proofs.Ytmmfbjmjhjmccaa.Am
set_option linter.unusedSimpArgs false
set_option linter.unusedVariables false
set_option maxHeartbeats 4000000
open Go
attribute [local irreducible] boundsS atS reasonS bothS alarmS overS validG pickS made24
theorem mr_L6 (N : Nat) (hN : 40 < N) (t r : Int) (S : List (Int × Int)) (d : Int) (R : List (Int × Int × Int)) (tol rate i : Int) (g31 : Ga) (r33 : Int) (r34 : List (Int × Int × Int)) (r35 r36 : Int) (r37 : List (Int × Int)) (r39 : Int) (r40 : List (Int × Int × Int)) (r41 r42 : Int) (r43 : List (Int × Int)) (raw22 : Int) (raw23 : List (Int × Int × Int)) (raw24 raw25 : Int) (raw26 : List (Int × Int)) (hS : S.length ≤ 1000) (hi : 0 ≤ i ∧ i < 4)
    (hy : ∃ d' R' tol' rate' S', nth [((g31.d, g31.R), g31.tol, g31.rate, g31.S), ((r33, r34), r35, r36, r37), ((r39, r40), r41, r42, r43), ((raw22, raw23.take ((min (raw23.length : Int) 13).toNat - 0)), raw24, raw25, raw26.take ((min (raw26.length : Int) 25).toNat - 0))] (3 - i) = some ((d', R'), tol', rate', S') ∧ S'.length ≤ 1000) (n : Nat) :
    D_putloglaw24_MonitorMatchesReference_L6 N t r S d R tol rate i g31 r33 r34 r35 r36 r37 r39 r40 r41 r42 r43 raw22 raw23 raw24 raw25 raw26 (n + 3) 0 = some (.inl ()) := by
  obtain ⟨d', R', tol', rate', S', hy, hyl⟩ := hy
  have i1 : I64 (3 - i) := by unfold I64; omega
  have step : ∀ (k : Nat) (x w : Int), 0 ≤ x ∧ x < 2 → nth [t, r] x = some w → D_putloglaw24_MonitorMatchesReference_L6 N t r S d R tol rate i g31 r33 r34 r35 r36 r37 r39 r40 r41 r42 r43 raw22 raw23 raw24 raw25 raw26 (k + 1) x = D_putloglaw24_MonitorMatchesReference_L6 N t r S d R tol rate i g31 r33 r34 r35 r36 r37 r39 r40 r41 r42 r43 raw22 raw23 raw24 raw25 raw26 k (x + 1) := by
    intro k x w hx hw
    rw [D_putloglaw24_MonitorMatchesReference_L6]
    have e1 : decide (x < 2) = true := by simpa using hx.2
    have i2 : I64 (x + 1) := by unfold I64; omega
    have b1 : D_putlogref24_Bounds N d R tol rate S w = some (boundsS ⟨d, R, tol, rate, S⟩ w) := rBounds N hN ⟨d, R, tol, rate, S⟩ w
    have b2 : D_putlogref24_Reason N d R tol rate S w = some (reasonS ⟨d, R, tol, rate, S⟩ w) := rReason N hN ⟨d, R, tol, rate, S⟩ w
    have b3 : D_putlogref24_Both N d R tol rate S d' R' tol' rate' S' w = some (bothS ⟨d, R, tol, rate, S⟩ ⟨d', R', tol', rate', S'⟩ w) := rBoth N hN ⟨d, R, tol, rate, S⟩ ⟨d', R', tol', rate', S'⟩ w
    obtain ⟨⟨p1, p2, p3⟩, hp⟩ : ∃ p, boundsS ⟨d, R, tol, rate, S⟩ w = p := ⟨_, rfl⟩
    obtain ⟨⟨q1, q2, q3⟩, hq⟩ : ∃ p, reasonS ⟨d, R, tol, rate, S⟩ w = p := ⟨_, rfl⟩
    obtain ⟨⟨u1, u2, u3⟩, hu⟩ : ∃ p, bothS ⟨d, R, tol, rate, S⟩ ⟨d', R', tol', rate', S'⟩ w = p := ⟨_, rfl⟩
    simp only [e1, cond_true, hw, Option.bind_some, gd_of hS, gd_of hyl, gd_of i1, gd_of i2, b1, b2, hp, hq, hy, b3, hu, ne_eq, not_true_eq_false, decide_false, Bool.or_false, cond_false]
  rw [step (n + 2) 0 t (by omega) rfl, step (n + 1) (0 + 1) r (by omega) rfl, D_putloglaw24_MonitorMatchesReference_L6]
  rfl
theorem mr_L9 (N : Nat) (hN : 2100 < N) (limit r : Int) (S : List (Int × Int)) (fr to d : Int) (R : List (Int × Int × Int)) (tol rate : Int) (hS : S.length ≤ 1000) (hf : -9223372036854775808 ≤ fr) (ht : to ≤ 9223372036854775807) (n : Nat) :
    D_putloglaw24_MonitorMatchesReference_L9 N limit r S fr to d R tol rate (n + 3) 0 = some (.inl ()) := by
  have step : ∀ (k : Nat) (x w : Int), 0 ≤ x ∧ x < 2 → nth [limit, r - 1500] x = some w → D_putloglaw24_MonitorMatchesReference_L9 N limit r S fr to d R tol rate (k + 1) x = D_putloglaw24_MonitorMatchesReference_L9 N limit r S fr to d R tol rate k (x + 1) := by
    intro k x w hx hw
    rw [D_putloglaw24_MonitorMatchesReference_L9]
    have e1 : decide (x < 2) = true := by simpa using hx.2
    have i2 : I64 (x + 1) := by unfold I64; omega
    have b1 : D_putlogref24_Over N d R tol rate S w fr to = some (overS ⟨d, R, tol, rate, S⟩ w fr to) := rOver N hN ⟨d, R, tol, rate, S⟩ w fr to hf ht
    have b2 : D_putlogref24_Alarm N d R tol rate S w fr to = some (alarmS ⟨d, R, tol, rate, S⟩ w fr to) := rAlarm N hN ⟨d, R, tol, rate, S⟩ w fr to hf ht
    obtain ⟨⟨p1, p2⟩, hp⟩ : ∃ p, overS ⟨d, R, tol, rate, S⟩ w fr to = p := ⟨_, rfl⟩
    obtain ⟨⟨q1, q2, q3⟩, hq⟩ : ∃ p, alarmS ⟨d, R, tol, rate, S⟩ w fr to = p := ⟨_, rfl⟩
    simp only [e1, cond_true, hw, Option.bind_some, gd_of hS, gd_of hf, gd_of ht, gd_of i2, b1, b2, hp, hq, ne_eq, not_true_eq_false, decide_false, Bool.or_false, cond_false]
  rw [step (n + 2) 0 limit (by omega) rfl, step (n + 1) (0 + 1) (r - 1500) (by omega) rfl, D_putloglaw24_MonitorMatchesReference_L9]
  rfl
theorem mr_L7 (N : Nat) (hN : 2100 < N) (fr to a b limit : Int) (S : List (Int × Int)) (d : Int) (R : List (Int × Int × Int)) (tol rate : Int) (hS : S.length ≤ 1000) (hl : inI limit) (hf : -9223372036854775808 ≤ fr) (ht : to ≤ 9223372036854775807) (hf' : -9223372036854775808 ≤ a) (ht' : a + 1 + b ≤ 9223372036854775807) (n : Nat) :
    D_putloglaw24_MonitorMatchesReference_L7 N fr to a b limit S d R tol rate (n + 3) 0 = some (.inl ()) := by
  have step : ∀ (k : Nat) (x w z : Int), 0 ≤ x ∧ x < 2 → nth [(fr, to), (a, (a + 1) + b)] x = some (w, z) → -9223372036854775808 ≤ w → z ≤ 9223372036854775807 → D_putloglaw24_MonitorMatchesReference_L7 N fr to a b limit S d R tol rate (k + 1) x = D_putloglaw24_MonitorMatchesReference_L7 N fr to a b limit S d R tol rate k (x + 1) := by
    intro k x w z hx hw hw1 hz1
    rw [D_putloglaw24_MonitorMatchesReference_L7]
    have p := @pick_bd limit 3001 (by omega)
    obtain ⟨q, hq⟩ : ∃ p, pickS limit 3001 = p := ⟨_, rfl⟩
    rw [hq] at p
    have e1 : decide (x < 2) = true := by simpa using hx.2
    have i2 : I64 (x + 1) := by unfold I64; omega
    have i3 : I64 (q - 1500) := by unfold I64; omega
    obtain ⟨m, rfl⟩ : ∃ m, N = m + 3 := ⟨N - 3, by omega⟩
    simp only [e1, cond_true, hw, Option.bind_some, gd_of hl, hq, gd_of i3, mr_L9 (m + 3) hN limit q S w z d R tol rate hS hw1 hz1 m, gd_of i2]
  rw [step (n + 2) 0 fr to (by omega) rfl hf ht, step (n + 1) (0 + 1) a (a + 1 + b) (by omega) rfl hf' ht', D_putloglaw24_MonitorMatchesReference_L7]
  rfl
theorem mr_L1 (N : Nat) (hN : 2100 < N) (g31 : Ga) (r33 : Int) (r34 : List (Int × Int × Int)) (r35 r36 : Int) (r37 : List (Int × Int)) (r39 : Int) (r40 : List (Int × Int × Int)) (r41 r42 : Int) (r43 : List (Int × Int)) (raw22 : Int) (raw23 : List (Int × Int × Int)) (raw24 raw25 : Int) (raw26 : List (Int × Int)) (t fr to a b limit : Int) (h1 : g31.S.length ≤ 1000) (h2 : r37.length ≤ 1000) (h3 : r43.length ≤ 1000) (htt : inI t) (hl : inI limit) (hf : -9223372036854775808 ≤ fr) (ht : to ≤ 9223372036854775807) (hf' : -9223372036854775808 ≤ a) (ht' : a + 1 + b ≤ 9223372036854775807) (n : Nat) :
    D_putloglaw24_MonitorMatchesReference_L1 N g31 r33 r34 r35 r36 r37 r39 r40 r41 r42 r43 raw22 raw23 raw24 raw25 raw26 t fr to a b limit (n + 5) 0 = some (.inl ()) := by
  have h4 : (raw26.take ((min (raw26.length : Int) 25).toNat - 0)).length ≤ 1000 := by rw [List.length_take]; omega
  have all : ∀ x : Int, 0 ≤ x ∧ x < 4 → ∃ d' R' tol' rate' S', nth [((g31.d, g31.R), g31.tol, g31.rate, g31.S), ((r33, r34), r35, r36, r37), ((r39, r40), r41, r42, r43), ((raw22, raw23.take ((min (raw23.length : Int) 13).toNat - 0)), raw24, raw25, raw26.take ((min (raw26.length : Int) 25).toNat - 0))] x = some ((d', R'), tol', rate', S') ∧ S'.length ≤ 1000 := by
    intro x hx
    obtain rfl | rfl | rfl | rfl : x = 0 ∨ x = 1 ∨ x = 2 ∨ x = 3 := by omega
    · exact ⟨_, _, _, _, _, rfl, h1⟩
    · exact ⟨_, _, _, _, _, rfl, h2⟩
    · exact ⟨_, _, _, _, _, rfl, h3⟩
    · exact ⟨_, _, _, _, _, rfl, h4⟩
  have step : ∀ (k : Nat) (x : Int), 0 ≤ x ∧ x < 4 → D_putloglaw24_MonitorMatchesReference_L1 N g31 r33 r34 r35 r36 r37 r39 r40 r41 r42 r43 raw22 raw23 raw24 raw25 raw26 t fr to a b limit (k + 1) x = D_putloglaw24_MonitorMatchesReference_L1 N g31 r33 r34 r35 r36 r37 r39 r40 r41 r42 r43 raw22 raw23 raw24 raw25 raw26 t fr to a b limit k (x + 1) := by
    intro k x hx
    obtain ⟨d, R, tol, rate, S, hw, hS⟩ := all x hx
    rw [D_putloglaw24_MonitorMatchesReference_L1]
    have e1 : decide (x < 4) = true := by simpa using hx.2
    have i2 : I64 (x + 1) := by unfold I64; omega
    have b1 : D_putlogref24_Valid N d R tol rate S = some (validG ⟨d, R, tol, rate, S⟩) := rvalid24 N (by omega) ⟨d, R, tol, rate, S⟩
    obtain ⟨m, rfl⟩ : ∃ m, N = m + 3 := ⟨N - 3, by omega⟩
    have L6 := mr_L6 (m + 3) (by omega) t (pickS t 400) S d R tol rate x g31 r33 r34 r35 r36 r37 r39 r40 r41 r42 r43 raw22 raw23 raw24 raw25 raw26 hS hx (all (3 - x) (by omega)) m
    have L7 := mr_L7 (m + 3) hN fr to a b limit S d R tol rate hS hl hf ht hf' ht' m
    simp only [e1, cond_true, hw, Option.bind_some, gd_of hS, b1, bne_self_eq_false, cond_false, gd_of htt, L6, L7, gd_of i2]
  rw [step (n + 4) 0 (by omega), step (n + 3) (0 + 1) (by omega), step (n + 2) (0 + 1 + 1) (by omega), step (n + 1) (0 + 1 + 1 + 1) (by omega), D_putloglaw24_MonitorMatchesReference_L1]
  rfl
theorem pureMatches (x : Sty) (hx : x.In) (y : Sty) (hyy : y.In) (b0 b1 b2 : Int) (raw22 : Int) (raw23 : List (Int × Int × Int)) (raw24 raw25 : Int) (raw26 : List (Int × Int)) (t limit fr to : Int) (h0 : inI b0) (h1 : inI b1) (h2 : inI b2) (ht : inI t) (hl : inI limit) (hf : inI fr) (hto : inI to) :
    D_putloglaw24_MonitorMatchesReference 3000 x.drift x.start x.rates x.rd x.tol x.rate x.first x.steps x.sm y.drift y.start y.rates y.rd y.tol y.rate y.first y.steps y.sm b0 b1 b2 raw22 raw23 raw24 raw25 raw26 t limit fr to = some true := by
  have p3 := @pick_bd fr 300 (by omega)
  have p4 := @pick_bd to 100 (by omega)
  unfold D_putloglaw24_MonitorMatchesReference
  obtain ⟨a, ha⟩ : ∃ s, pickS fr 300 = s := ⟨_, rfl⟩
  obtain ⟨b, hb⟩ : ∃ s, pickS to 100 = s := ⟨_, rfl⟩
  rw [ha] at p3; rw [hb] at p4
  have hlA := (made24_S x).1
  obtain ⟨d, R, tol, rate, S, hG, hGl⟩ := bent_total 3000 (made24 x).d (made24 x).R (made24 x).tol (made24 x).rate (made24 x).S b0 b1 b2 hlA h0 h2
  obtain ⟨e, he, hE⟩ := exact_total y hyy
  have hEl : (e.T.map (shT e.p)).length ≤ 1000 := by have := he.len; rw [List.length_map]; omega
  have i4 : I64 (a + 1) := by unfold I64; omega
  have i5 : I64 (a + 1 + b) := by unfold I64; omega
  have g1 : 0 ≤ 0 ∧ 0 ≤ min (raw23.length : Int) 13 ∧ min (raw23.length : Int) 13 ≤ (raw23.length : Int) := by omega
  have g2 : 0 ≤ 0 ∧ 0 ≤ min (raw26.length : Int) 25 ∧ min (raw26.length : Int) 25 ≤ (raw26.length : Int) := by omega
  obtain ⟨A, hA⟩ : ∃ A, made24 ⟨x.drift, x.start, x.rates, x.rd, x.tol, x.rate, x.first, x.steps, x.sm⟩ = A := ⟨_, rfl⟩
  have hA' : made24 x = A := hA
  rw [hA'] at hG hlA
  unfold inI at hf hto
  have L1 := mr_L1 3000 (by omega) A 0 [(e.p + 50, 50, 50)] e.tol e.rate (e.T.map (shT e.p)) d R tol rate S raw22 raw23 raw24 raw25 raw26 t fr to a b limit (by omega) hEl (by omega) ht hl (by omega) (by omega) (by omega) (by omega) 2995
  simp only [gd_of g1, gd_of g2, gd_of hx.drift, gd_of hx.start, gd_of hx.rates, gd_of hx.rd, gd_of hx.tol, gd_of hx.rate, gd_of hx.first, gd_of hx.steps, gd_of hx.sm, hA, Option.bind_some, hE, hG, gd_of (show inI fr from hf), ha, gd_of i4, gd_of (show inI to from hto), hb, gd_of i5]
  rw [show (3000 : Nat) = 2995 + 5 from rfl] at L1 ⊢
  rw [L1]
  rfl
end Go.Proofs.Ytmmfbjmjhjmccaa.Am
