/-
  Plain law: the gauge with an exact clock.
-/
import Derived.Test.YtmmfbjmjhjmccaaM10
namespace Go.Proofs.Ytmmfbjmjhjmccaa.Am
set_option linter.unusedSimpArgs false
set_option linter.unusedVariables false
set_option maxHeartbeats 4000000
open Go
attribute [local irreducible] boundsS atS
theorem gd_tr {α : Type} [Decidable True] {k : Option α} : gd True k = k := gd_of trivial
/-! ### The gauge -/
def GoodT (T : List Sm) (t : Int) (k : Nat) : Prop := T.length ≤ k ∧ 0 ≤ t ∧ t ≤ 30 * (k : Int) ∧ (T.Pairwise fun a b => a.1 < b.1) ∧ ∀ c ∈ T, 1 ≤ c.1 ∧ c.1 ≤ t ∧ -10000 ≤ c.2 ∧ c.2 ≤ 10000
theorem exact_L2 (N : Nat) (S : List Sm) (start p rate first : Int) (steps : List Int) (tol : Int) (hS : ∀ r ∈ S, inI r.1 ∧ inI r.2) (h1 : inI start) (h2 : inI rate) (h3 : inI first) (h4 : ∀ r ∈ steps, inI r) (hp : 0 ≤ p ∧ p < 1000) (ht : 0 ≤ tol ∧ tol ≤ 30) :
    ∀ (n k : Nat) (t : Int) (T : List Sm), k ≤ 12 → 12 < n + k → GoodT T t k → ∃ T' t' k', k' ≤ 12 ∧ D_putlogref24_Exact_L2 N S start p rate first steps tol n t k (T.map (shT p)) = some (T'.map (shT p)) ∧ GoodT T' t' k'
  | 0, k, t, T, hk, hn, hT => by omega
  | n + 1, k, t, T, hk, hn, hT => by
    rw [D_putlogref24_Exact_L2]
    by_cases hc : k < S.length ∧ k < 12
    · have e1 : (decide ((k : Int) < (S.length : Int)) && decide ((k : Int) < 12)) = true := by simp; omega
      obtain ⟨⟨a, b⟩, hab⟩ : ∃ s, S[k] = s := ⟨_, rfl⟩
      have hI := hS (a, b) (by rw [← hab]; exact List.getElem_mem _)
      have hn1 : nth S (k : Int) = some (a, b) := by rw [nth_nat, List.getElem?_eq_getElem hc.1, hab]
      have q1 := @pick_bd a 30 (by omega)
      have q2 := @pick_bd b (4 * tol + 1) (by omega)
      obtain ⟨g1, g2, g3, g4, g5⟩ := hT
      have hv := valueS_bd rate first steps (t + 1 + pickS a 30).toNat
      simp only [e1, cond_true, hn1, Option.bind_some]
      obtain ⟨v, hvv⟩ : ∃ v, valueS rate first steps (t + 1 + pickS a 30).toNat = v := ⟨_, rfl⟩
      obtain ⟨u, hu⟩ : ∃ u, pickS a 30 = u := ⟨_, rfl⟩
      obtain ⟨w, hw⟩ : ∃ u, pickS b (4 * tol + 1) = u := ⟨_, rfl⟩
      rw [hu] at q1
      rw [hw] at q2
      rw [hvv] at hv
      rw [hu] at hvv
      rw [hu] at hv
      have i1 := hI.1
      have i2 := hI.2
      simp only at i1 i2
      have j1 : I64 (t + 1) := by unfold I64; omega
      have j2 : I64 (t + 1 + u) := by unfold I64; omega
      have j3 : I64 (p + (t + 1 + u)) := by unfold I64; omega
      have j4 : 0 ≤ t + 1 + u ∧ t + 1 + u ≤ 100000 := by omega
      have j5 : I64 (4 * tol) := by unfold I64; omega
      have j6 : I64 (4 * tol + 1) := by unfold I64; omega
      have j7 : 0 < 4 * tol + 1 := by omega
      have j8 : I64 (v + w) := by unfold I64; omega
      have j9 : I64 (2 * tol) := by unfold I64; omega
      have j10 : I64 (v + w - 2 * tol) := by unfold I64; omega
      have j11 : ((T.map (shT p)).length + 1) * 16 ≤ 140737488355328 := by simp; omega
      have j12 : I64 ((k : Int) + 1) := by unfold I64; omega
      simp only [gd_of j1, gd_of i1, hu, Option.bind_some, gd_of j2, gd_of h1, gd_of j3, gd_of h2, gd_of h3, gd_of h4, gd_of j4, hvv, gd_of j5, gd_of j6, gd_of i2, gd_of j7, hw, gd_of j8, gd_of j9, gd_of j10, gd_of j11, gd_of j12]
      have ih := exact_L2 N S start p rate first steps tol hS h1 h2 h3 h4 hp ht n (k + 1) (t + 1 + u) (T ++ [(t + 1 + u, v + w - 2 * tol)]) (by omega) (by omega) ⟨by simp; omega, by omega, by omega, by
        rw [List.pairwise_append]
        refine ⟨g4, by simp, fun c hc' d hd => ?_⟩
        simp only [List.mem_singleton] at hd
        subst hd
        have := g5 c hc'
        simp only
        omega, fun c hc' => by
        rcases List.mem_append.1 hc' with h | h
        · have := g5 c h
          omega
        · simp only [List.mem_singleton] at h
          subst h
          simp only
          omega⟩
      rw [List.map_append] at ih
      exact ih
    · have e1 : (decide ((k : Int) < (S.length : Int)) && decide ((k : Int) < 12)) = false := by
        rw [← Bool.not_eq_true]
        simp only [Bool.and_eq_true, decide_eq_true_eq]
        omega
      rw [e1, cond_false]
      exact ⟨T, t, k, hk, rfl, hT⟩

theorem exact_total (x : Sty) (hx : x.In) : ∃ y : Ex, y.Ok ∧ D_putlogref24_Exact 3000 x.drift x.start x.rates x.rd x.tol x.rate x.first x.steps x.sm = some ((0, [(y.p + 50, 50, 50)]), y.tol, y.rate, y.T.map (shT y.p)) := by
  have p1 := @pick_bd x.start 1000 (by omega)
  have p2 := @pick_bd x.tol 31 (by omega)
  have p3 := @pick_bd x.rate 21 (by omega)
  unfold D_putlogref24_Exact
  obtain ⟨T, t, k, hk, hL, hT⟩ := exact_L2 3000 x.sm x.start (pickS x.start 1000) x.rate x.first x.steps (pickS x.tol 31) hx.sm hx.start hx.rate hx.first hx.steps (by omega) (by omega) 3000 0 0 [] (by omega) (by omega) ⟨by simp, by omega, by omega, by simp, by simp⟩
  obtain ⟨g1, g2, g3, g4, g5⟩ := hT
  refine ⟨⟨pickS x.start 1000, pickS x.tol 31, pickS x.rate 21, T⟩, ⟨by simp only; omega, by simp only; omega, by simp only; omega, by simp only; omega, g4, fun c hc => by have := g5 c hc; omega⟩, ?_⟩
  have i1 : I64 (pickS x.start 1000 + 50) := by unfold I64; omega
  have hL' : D_putlogref24_Exact_L2 3000 x.sm x.start (pickS x.start 1000) x.rate x.first x.steps (pickS x.tol 31) 3000 0 0 [] = some (T.map (shT (pickS x.start 1000))) := hL
  simp only [gd_of hx.start, Option.bind_some, gd_of i1, gd_of hx.tol, gd_of hx.rate, hL']

end Go.Proofs.Ytmmfbjmjhjmccaa.Am
