/-
  Plain laws: gauges whose clocks are exact.
-/
import Derived.Test.YtmmfbjmjhjmccaaM4
import Derived.Test.YtmmfbjmjhjmccaaD7
namespace Go.Proofs.Ytmmfbjmjhjmccaa.Am
set_option linter.unusedSimpArgs false
set_option linter.unusedVariables false
open Go
theorem bounds_vx {g : Ga} (h : validG g = true) {t : Int} (ht : 0 ≤ t ∧ t ≤ 10000000) : boundsS g t = if (lookS g.rate t (factsG g)).1 ≤ (lookS g.rate t (factsG g)).2.1 then ((lookS g.rate t (factsG g)).1, (lookS g.rate t (factsG g)).2.1, 0) else (0, 0, 240) := by
  have hf : foundS g t = (lookS g.rate t (factsG g), decide ((lookS g.rate t (factsG g)).1 ≤ (lookS g.rate t (factsG g)).2.1)) := by unfold foundS; rw [if_pos ⟨h, ht⟩]
  unfold boundsS
  rw [hf]
  simp only [decide_eq_true_eq]

theorem spread_exact {n : Int} (h : 0 ≤ n ∧ n ≤ 10000000) : spreadS 0 n = (n, n) := by
  unfold spreadS
  rw [if_neg (by omega)]
  have e2 : (1000 * (n + 1) - 1).tdiv (1000 - 0) = n := by rw [Int.tdiv_eq_ediv_of_nonneg (by omega)]; omega
  rw [e2]
  split
  · have e1 : (1000 * (n - 1)).tdiv (1000 + 0) = n - 1 := by rw [Int.tdiv_eq_ediv_of_nonneg (by omega)]; omega
    rw [e1]
    simp
  · have : n = 0 := by omega
    rw [this]
theorem exact_at {p t : Int} (hp : 0 ≤ p ∧ p < 1000) (ht : 0 ≤ t ∧ t ≤ 1000) : atS 0 [(p + 50, 50, 50)] (p + t) = (t, t, 0) := by
  have hv : validC 0 [(p + 50, 50, 50)] = true := by
    simp [validC, chainS]; omega
  have ha : aroundS 0 (p + t) [(p + 50, 50, 50)] = (t, t) := by
    unfold aroundS
    simp only [List.foldl_cons, List.foldl_nil]
    unfold stepA
    simp only
    rw [spread_exact (by omega)]
    split
    · simp only [Prod.mk.injEq]; omega
    · split
      · simp only [Prod.mk.injEq]; omega
      · simp only [Prod.mk.injEq]; omega
  unfold atS
  rw [if_neg (by rw [hv]; simp; omega), ha]
  simp

/-- How far two seconds are apart. -/
def Dst (s t : Int) : Int := max (s - t) (t - s)
theorem dst_nn (s t : Int) : 0 ≤ Dst s t := by unfold Dst; omega
theorem dst_comm (s t : Int) : Dst s t = Dst t s := by unfold Dst; omega
theorem dst_self (s : Int) : Dst s s = 0 := by unfold Dst; omega
theorem dst_tri {r : Int} (hr : 0 ≤ r) (s t u : Int) : r * Dst s t ≤ r * Dst s u + r * Dst u t := by
  rw [← Int.mul_add]
  exact Int.mul_le_mul_of_nonneg_left (by unfold Dst; omega) hr
theorem mul_nn {r d : Int} (hr : 0 ≤ r) (hd : 0 ≤ d) : 0 ≤ r * d := Int.mul_nonneg hr hd
theorem mul_small {r d : Int} (hr : 0 ≤ r ∧ r ≤ 20) (hd : 0 ≤ d ∧ d ≤ 1000) : 0 ≤ r * d ∧ r * d ≤ 20000 := by
  refine ⟨Int.mul_nonneg hr.1 hd.1, ?_⟩
  calc r * d ≤ 20 * d := Int.mul_le_mul_of_nonneg_right hr.2 hd.1
    _ ≤ 20000 := by omega

/-- A gauge with an exact clock, its samples by their true seconds. -/
def shT (p : Int) (c : Sm) : Sm := (p + c.1, c.2)
structure Ex where
  p : Int
  tol : Int
  rate : Int
  T : List Sm
def Ex.G (x : Ex) : Ga := ⟨0, [(x.p + 50, 50, 50)], x.tol, x.rate, x.T.map (shT x.p)⟩
structure Ex.Ok (x : Ex) : Prop where
  p : 0 ≤ x.p ∧ x.p < 1000
  tol : 0 ≤ x.tol ∧ x.tol ≤ 30
  rate : 0 ≤ x.rate ∧ x.rate ≤ 20
  len : x.T.length ≤ 12
  asc : x.T.Pairwise fun a b => a.1 < b.1
  bd : ∀ c ∈ x.T, 1 ≤ c.1 ∧ c.1 ≤ 360 ∧ -10000 ≤ c.2 ∧ c.2 ≤ 10000

theorem Ex.valid {x : Ex} (h : x.Ok) : validG x.G = true := by
  have hv : validC 0 [(x.p + 50, 50, 50)] = true := by
    have := h.p
    simp [validC, chainS]; omega
  have := h.tol; have := h.rate; have := h.len
  simp only [validG, Ex.G, Bool.and_eq_true, decide_eq_true_eq, List.length_map]
  refine ⟨?_, ⟨⟨hv, ?_⟩, ?_⟩, ?_⟩
  rotate_left
  · exact ⟨decide_eq_true (by omega), decide_eq_true (by omega)⟩
  · exact ⟨decide_eq_true (by omega), decide_eq_true (by omega)⟩
  · omega
  rw [chain2_pair]
  constructor
  · rw [List.pairwise_map]
    exact h.asc.imp fun {a b} hab => by simp only [shT]; omega
  · intro s hs
    obtain ⟨c, hc, rfl⟩ := List.mem_map.1 hs
    have := h.bd c hc; have := h.p
    simp only [shT]; omega

theorem ex_reach {rate s t : Int} {j a b : Int} : reachS rate (j, a, b, t, t) s = rate * Dst s t := by
  unfold reachS Dst
  congr 1
  simp only
  omega
theorem Ex.low_iff {x : Ex} (h : x.Ok) (s z : Int) : (lookS x.rate s (factsG x.G)).1 ≤ z ↔ -1000000 ≤ z ∧ ∀ c ∈ x.T, c.2 - x.tol - x.rate * Dst s c.1 ≤ z := by
  rw [look_low]
  refine and_congr_right fun _ => ⟨fun hA c hc => ?_, fun hA => ?_⟩
  · have hb := h.bd c hc
    have ha := @exact_at x.p c.1 h.p (by omega)
    obtain ⟨j, hj⟩ := @counted_mem 0 [(x.p + 50, 50, 50)] x.tol (x.T.map (shT x.p)) 0 (shT x.p c) (List.mem_map_of_mem hc) (by simp only [shT]; rw [ha])
    have := hA _ hj
    simp only [shT, ha] at this
    rw [ex_reach] at this
    exact this
  · refine counted_in fun q hq j h0 => ?_
    obtain ⟨c, hc, rfl⟩ := List.mem_map.1 hq
    have hb := h.bd c hc
    have ha := @exact_at x.p c.1 h.p (by omega)
    show c.2 - x.tol - reachS x.rate (j, c.2 - x.tol, c.2 + x.tol, (atS 0 [(x.p + 50, 50, 50)] (x.p + c.1)).1, (atS 0 [(x.p + 50, 50, 50)] (x.p + c.1)).2.1) s ≤ z
    rw [ha, ex_reach]
    exact hA c hc
theorem Ex.high_iff {x : Ex} (h : x.Ok) (s z : Int) : z ≤ (lookS x.rate s (factsG x.G)).2.1 ↔ z ≤ 1000000 ∧ ∀ c ∈ x.T, z ≤ c.2 + x.tol + x.rate * Dst s c.1 := by
  rw [look_high]
  refine and_congr_right fun _ => ⟨fun hA c hc => ?_, fun hA => ?_⟩
  · have hb := h.bd c hc
    have ha := @exact_at x.p c.1 h.p (by omega)
    obtain ⟨j, hj⟩ := @counted_mem 0 [(x.p + 50, 50, 50)] x.tol (x.T.map (shT x.p)) 0 (shT x.p c) (List.mem_map_of_mem hc) (by simp only [shT]; rw [ha])
    have := hA _ hj
    simp only [shT, ha] at this
    rw [ex_reach] at this
    exact this
  · refine counted_in fun q hq j h0 => ?_
    obtain ⟨c, hc, rfl⟩ := List.mem_map.1 hq
    have hb := h.bd c hc
    have ha := @exact_at x.p c.1 h.p (by omega)
    show z ≤ c.2 + x.tol + reachS x.rate (j, c.2 - x.tol, c.2 + x.tol, (atS 0 [(x.p + 50, 50, 50)] (x.p + c.1)).1, (atS 0 [(x.p + 50, 50, 50)] (x.p + c.1)).2.1) s
    rw [ha, ex_reach]
    exact hA c hc
abbrev Ex.lo (x : Ex) (s : Int) : Int := (lookS x.rate s (factsG x.G)).1
abbrev Ex.hi (x : Ex) (s : Int) : Int := (lookS x.rate s (factsG x.G)).2.1
theorem Ex.lo_lip {x : Ex} (h : x.Ok) (s u : Int) : x.lo s ≤ x.lo u + x.rate * Dst s u := by
  have a := (Ex.low_iff h u (x.lo u)).1 (Int.le_refl _)
  refine (Ex.low_iff h s _).2 ⟨?_, fun c hc => ?_⟩
  · have := mul_nn h.rate.1 (dst_nn s u)
    omega
  · have := a.2 c hc
    have := dst_tri h.rate.1 u c.1 s
    rw [dst_comm u s] at this
    omega
/-- Where the bounds contradict each other, two samples do. -/
theorem Ex.contra {x : Ex} (h : x.Ok) {s : Int} (hs : x.hi s < x.lo s) : ∃ a ∈ x.T, ∃ b ∈ x.T, 2 * x.tol + x.rate * Dst a.1 b.1 < a.2 - b.2 := by
  have k : ¬ x.lo s ≤ x.hi s := by omega
  rw [Ex.low_iff h] at k
  have hh : ¬ x.lo s ≤ x.hi s := by omega
  have ht := h.tol
  by_cases h1 : -1000000 ≤ x.hi s
  · have k2 : ¬ ∀ c ∈ x.T, c.2 - x.tol - x.rate * Dst s c.1 ≤ x.hi s := fun k2 => k ⟨h1, k2⟩
    simp only [Classical.not_forall, Int.not_le] at k2
    obtain ⟨a, ha, hlt⟩ := k2
    have k3 : ¬ (a.2 - x.tol - x.rate * Dst s a.1) ≤ x.hi s := by omega
    rw [Ex.high_iff h] at k3
    have hba := h.bd a ha
    have := mul_nn h.rate.1 (dst_nn s a.1)
    have k4 : ¬ ∀ c ∈ x.T, a.2 - x.tol - x.rate * Dst s a.1 ≤ c.2 + x.tol + x.rate * Dst s c.1 := fun k4 => k3 ⟨by omega, k4⟩
    simp only [Classical.not_forall, Int.not_le] at k4
    obtain ⟨b, hb, hlt2⟩ := k4
    refine ⟨a, ha, b, hb, ?_⟩
    have := dst_tri h.rate.1 a.1 b.1 s
    rw [dst_comm a.1 s] at this
    omega
  · exfalso
    apply h1
    refine (Ex.high_iff h s _).2 ⟨by omega, fun c hc => ?_⟩
    have := h.bd c hc
    have := mul_nn h.rate.1 (dst_nn s c.1)
    omega
theorem Ex.bnd {x : Ex} (h : x.Ok) {s : Int} (hs : 0 ≤ s ∧ s ≤ 10000000) : boundsS x.G s = if x.lo s ≤ x.hi s then (x.lo s, x.hi s, 0) else (0, 0, 240) := bounds_vx (Ex.valid h) hs
theorem Ex.lo_ge {x : Ex} (h : x.Ok) (s : Int) : -1000000 ≤ x.lo s := ((Ex.low_iff h s (x.lo s)).1 (Int.le_refl _)).1
theorem Ex.hi_le {x : Ex} (h : x.Ok) (s : Int) : x.hi s ≤ 1000000 := ((Ex.high_iff h s (x.hi s)).1 (Int.le_refl _)).1
theorem Ex.lo_c {x : Ex} (h : x.Ok) (s : Int) {c : Sm} (hc : c ∈ x.T) : c.2 - x.tol - x.rate * Dst s c.1 ≤ x.lo s := ((Ex.low_iff h s (x.lo s)).1 (Int.le_refl _)).2 c hc
theorem Ex.hi_c {x : Ex} (h : x.Ok) (s : Int) {c : Sm} (hc : c ∈ x.T) : x.hi s ≤ c.2 + x.tol + x.rate * Dst s c.1 := ((Ex.high_iff h s (x.hi s)).1 (Int.le_refl _)).2 c hc
theorem Ex.lo_self {x : Ex} (h : x.Ok) {c : Sm} (hc : c ∈ x.T) : c.2 - x.tol ≤ x.lo c.1 := by
  have := Ex.lo_c h c.1 hc
  rw [dst_self, Int.mul_zero] at this
  omega
theorem Ex.hi_self {x : Ex} (h : x.Ok) {c : Sm} (hc : c ∈ x.T) : x.hi c.1 ≤ c.2 + x.tol := by
  have := Ex.hi_c h c.1 hc
  rw [dst_self, Int.mul_zero] at this
  omega
end Go.Proofs.Ytmmfbjmjhjmccaa.Am
