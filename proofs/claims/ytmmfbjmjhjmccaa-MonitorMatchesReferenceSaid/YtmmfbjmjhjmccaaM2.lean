/-
  Plain laws: a story's gauge is valid and faithful (continued).
-/
import Derived.Test.YtmmfbjmjhjmccaaM1
namespace Go.Proofs.Ytmmfbjmjhjmccaa.Am
set_option linter.unusedSimpArgs false
set_option linter.unusedVariables false
open Go
/-- A course: what is shown at each second. -/
structure Course (d : Int) (sh : Int → Int) : Prop where
  r : 0 ≤ d ∧ d ≤ 100
  c : ∀ s u, 0 ≤ s → s ≤ u → (1000 - d) * (u - s) - 1000 < 1000 * (sh u - sh s) ∧ 1000 * (sh u - sh s) < (1000 + d) * (u - s) + 1000 ∧ sh s ≤ sh u
theorem course_of (drift start : Int) (rates : List Int) : Course (pickS drift 101) (shownS drift start rates) := by
  have hd := @pick_bd drift 101 (by omega)
  exact ⟨by omega, fun s u hs hu => course hs hu⟩

/-- A reading that agrees with a course. -/
def Agr (sh : Int → Int) (r : Rd3) : Prop := ∃ s, 0 ≤ s ∧ r.2.1 ≤ s ∧ s ≤ r.2.2 ∧ sh s = r.1

theorem stepA_in {d l u : Int} {sh : Int → Int} (hC : Course d sh) (hl : 0 ≤ l ∧ l ≤ 10000000) (hu : 0 ≤ u) (hsu : sh u = l) {r : Rd3} (hr : 0 ≤ r.1 ∧ r.1 ≤ 10000000) (ha : Agr sh r) {w : Int × Int} (hw : w.1 ≤ u ∧ u ≤ w.2) :
    (stepA d l w r).1 ≤ u ∧ u ≤ (stepA d l w r).2 := by
  obtain ⟨s, hs0, hs1, hs2, hss⟩ := ha
  have key : ∀ a b : Int, 0 ≤ a → a ≤ b → 0 ≤ sh b - sh a → sh b - sh a ≤ 10000000 → (spreadS d (sh b - sh a)).1 ≤ b - a ∧ b - a ≤ (spreadS d (sh b - sh a)).2 := by
    intro a b ha hab h0 h1
    have := hC.c a b ha hab
    exact spread_in hC.r ⟨h0, h1⟩ (by omega) this.1 this.2.1
  unfold stepA
  simp only
  by_cases h1 : l < r.1
  · rw [if_pos h1]
    have hus : u ≤ s := by
      rcases Int.le_total u s with h | h
      · exact h
      · have := (hC.c s u hs0 h).2.2
        omega
    have e : max (l - r.1) (r.1 - l) = sh s - sh u := by omega
    rw [e]
    have := key u s hu hus (by omega) (by omega)
    simp only
    omega
  · rw [if_neg h1]
    by_cases h2 : l = r.1
    · rw [if_pos h2]
      simp only
      rcases Int.le_total u s with h | h
      · have e : max (l - r.1) (r.1 - l) = sh s - sh u := by omega
        rw [e]
        have := key u s hu h (by omega) (by omega)
        omega
      · have e : max (l - r.1) (r.1 - l) = sh u - sh s := by omega
        rw [e]
        have := key s u hs0 h (by omega) (by omega)
        omega
    · rw [if_neg h2]
      have hus : s ≤ u := by
        rcases Int.le_total s u with h | h
        · exact h
        · have := (hC.c u s hu h).2.2
          omega
      have e : max (l - r.1) (r.1 - l) = sh u - sh s := by omega
      rw [e]
      have := key s u hs0 hus (by omega) (by omega)
      simp only
      omega

theorem around_in {d l u : Int} {sh : Int → Int} (hC : Course d sh) (hl : 0 ≤ l ∧ l ≤ 10000000) (hu : 0 ≤ u) (hsu : sh u = l) : ∀ (R : List Rd3) (w : Int × Int), (∀ r ∈ R, (0 ≤ r.1 ∧ r.1 ≤ 10000000) ∧ Agr sh r) → w.1 ≤ u → u ≤ w.2 →
    (R.foldl (stepA d l) w).1 ≤ u ∧ u ≤ (R.foldl (stepA d l) w).2
  | [], w, _, h1, h2 => ⟨h1, h2⟩
  | r :: R, w, hR, h1, h2 => by
    rw [List.foldl_cons]
    have hr := hR r (by simp)
    have := stepA_in hC hl hu hsu hr.1 hr.2 ⟨h1, h2⟩
    exact around_in hC hl hu hsu R _ (fun r hr => hR r (by simp [hr])) this.1 this.2

theorem at_in {d u : Int} {R : List Rd3} {sh : Int → Int} (hC : Course d sh) (hv : validC d R = true) (hA : ∀ r ∈ R, Agr sh r) (hu : 0 ≤ u ∧ u ≤ 10000000) (hl : 0 ≤ sh u ∧ sh u ≤ 10000000) :
    (atS d R (sh u)).2.2 = 0 ∧ (atS d R (sh u)).1 ≤ u ∧ u ≤ (atS d R (sh u)).2.1 := by
  have hch : chainS (-1) R = true := by simp only [validC, Bool.and_eq_true] at hv; exact hv.2
  have := around_in hC hl hu.1 rfl R (0, 10000000) (fun r hr => ⟨by have := chain_get hch r hr; omega, hA r hr⟩) hu.1 hu.2
  have h0 : ¬ (validC d R = false ∨ sh u < 0 ∨ 10000000 < sh u) := by
    rw [hv]; simp; omega
  unfold atS
  rw [if_neg h0]
  unfold aroundS
  rw [if_neg (by omega)]
  exact ⟨rfl, this⟩

/-! ### The readings of a story -/
theorem chainS_snoc : ∀ {R : List Rd3} {l : Int} {r : Rd3}, chainS l R = true → (R.length = 0 → l < r.1) → (R.length ≠ 0 → (lastR R).1 < r.1) → r.1 ≤ 10000000 → 0 ≤ r.2.1 → r.2.1 ≤ r.2.2 → r.2.2 ≤ 10000000 → chainS l (R ++ [r]) = true
  | [], l, (a, b, c), _, h1, _, h3, h4, h5, h6 => by
    have := h1 rfl
    simp [chainS] at this h3 h4 h5 h6 ⊢
    omega
  | (a, b, c) :: R, l, r, h, _, h2, h3, h4, h5, h6 => by
    simp only [chainS, Bool.and_eq_true, decide_eq_true_eq, List.cons_append] at h ⊢
    refine ⟨h.1, chainS_snoc h.2 (fun h0 => ?_) (fun h0 => ?_) h3 h4 h5 h6⟩
    · have : R = [] := List.eq_nil_of_length_eq_zero h0
      subst this
      have := h2 (by simp)
      simpa [lastR] using this
    · have := h2 (by simp)
      unfold lastR at this ⊢
      obtain ⟨k, hk⟩ : ∃ k, R.length = k + 1 := ⟨R.length - 1, by omega⟩
      simpa [hk] using this

def GoodR (sh : Int → Int) (R : List Rd3) : Prop := chainS (-1) R = true ∧ ∀ r ∈ R, Agr sh r
theorem stepM_good {drift start : Int} {rates : List Int} {t : Nat} (ht : t < 3000) {R : List Rd3} (h : GoodR (shownS drift start rates) R) (p : Rd3) : GoodR (shownS drift start rates) (stepM drift start rates t R p) := by
  unfold stepM
  split
  · exact h
  · split
    · rename_i hc
      have hp2 := @pick_bd p.2.1 51 (by omega)
      have hp3 := @pick_bd p.2.2 51 (by omega)
      have hps := @pick_bd start 1000 (by omega)
      have hd := @pick_bd drift 101 (by omega)
      have hsh := @shownS_eq drift start rates t (by omega)
      have hF := bigF_nonneg (d := pickS drift 101) (by omega) rates (t := t) (by omega)
      refine ⟨chainS_snoc h.1 (fun _ => ?_) (fun h0 => hc.resolve_left h0) ?_ ?_ ?_ ?_, fun r hr => ?_⟩
      · show -1 < shownS drift start rates t
        omega
      · show shownS drift start rates t ≤ 10000000
        omega
      · show 0 ≤ max ((t : Int) - pickS p.2.1 51) 0
        omega
      · show max ((t : Int) - pickS p.2.1 51) 0 ≤ (t : Int) + pickS p.2.2 51
        omega
      · show (t : Int) + pickS p.2.2 51 ≤ 10000000
        omega
      · rcases List.mem_append.1 hr with hr | hr
        · exact h.2 r hr
        · simp at hr
          subst hr
          exact ⟨t, by omega, by dsimp only; omega, by dsimp only; omega, rfl⟩
    · exact h

theorem foldl_good {α β : Type} {P : α → Prop} {f : α → β → α} : ∀ (l : List β) (a : α), P a → (∀ a b, b ∈ l → P a → P (f a b)) → P (l.foldl f a)
  | [], a, h, _ => h
  | b :: l, a, h, hs => foldl_good l (f a b) (hs a b (by simp) h) fun a b' hb h => hs a b' (by simp [hb]) h

theorem made05_good (drift start : Int) (rates : List Int) (A : List Rd3) : GoodR (shownS drift start rates) (made05 drift start rates A) := by
  unfold made05
  refine foldl_good (P := GoodR (shownS drift start rates)) _ _ ⟨rfl, by simp⟩ fun R t ht h => ?_
  exact foldl_good (P := GoodR (shownS drift start rates)) _ _ h fun R p _ h => stepM_good (List.mem_range.1 ht) h p

/-- As many readings as there are entries, at most. -/
theorem stepM_cnt (drift start : Int) (rates : List Int) (t : Nat) : ∀ (A : List Rd3) (R : List Rd3), (A.foldl (stepM drift start rates t) R).length ≤ R.length + (A.filter fun p => decide (pickS p.1 3000 = (t : Int))).length
  | [], R => by simp
  | p :: A, R => by
    rw [List.foldl_cons]
    have ih := stepM_cnt drift start rates t A (stepM drift start rates t R p)
    by_cases h : pickS p.1 3000 = (t : Int)
    · have := @stepM_len drift start rates t R p
      rw [List.filter_cons_of_pos (by simpa using h), List.length_cons]
      omega
    · have e : stepM drift start rates t R p = R := by simp only [stepM]; rw [if_pos h]
      rw [e] at ih ⊢
      rw [List.filter_cons_of_neg (by simpa using h)]
      exact ih
theorem filter_split (A : List Rd3) (t : Nat) : (A.filter fun p => decide (pickS p.1 3000 < ((t + 1 : Nat) : Int))).length = (A.filter fun p => decide (pickS p.1 3000 < (t : Int))).length + (A.filter fun p => decide (pickS p.1 3000 = (t : Int))).length := by
  induction A with
  | nil => rfl
  | cons p A ih =>
    simp only [List.filter_cons]
    rcases (by omega : pickS p.1 3000 < t ∨ pickS p.1 3000 = t ∨ t < pickS p.1 3000) with h | h | h
    · rw [if_pos (by simp; omega), if_pos (by simpa using h), if_neg (by simp; omega)]
      simp only [List.length_cons]; omega
    · rw [if_pos (by simp; omega), if_neg (by simp; omega), if_pos (by simpa using h)]
      simp only [List.length_cons]; omega
    · rw [if_neg (by simp; omega), if_neg (by simp; omega), if_neg (by simp; omega)]
      exact ih
theorem made05_len (drift start : Int) (rates : List Int) (A : List Rd3) : (made05 drift start rates A).length ≤ 12 := by
  have key : ∀ n, ((List.range n).foldl (fun R t => (A.take 12).foldl (stepM drift start rates t) R) []).length ≤ ((A.take 12).filter fun p => decide (pickS p.1 3000 < (n : Int))).length := by
    intro n
    induction n with
    | zero => simp
    | succ n ih =>
      rw [fold_range_succ, filter_split]
      have := stepM_cnt drift start rates n (A.take 12) ((List.range n).foldl (fun R t => (A.take 12).foldl (stepM drift start rates t) R) [])
      omega
  have h1 := key 3000
  have h2 := List.length_filter_le (fun p : Rd3 => decide (pickS p.1 3000 < ((3000 : Nat) : Int))) (A.take 12)
  have h3 : (A.take 12).length ≤ 12 := by simp; omega
  unfold made05
  omega
theorem made05_valid (drift start : Int) (rates : List Int) (A : List Rd3) : validC (pickS drift 101) (made05 drift start rates A) = true := by
  have hd := @pick_bd drift 101 (by omega)
  simp only [validC, Bool.and_eq_true, decide_eq_true_eq]
  exact ⟨⟨⟨hd.1, by omega⟩, made05_len _ _ _ _⟩, (made05_good _ _ _ _).1⟩
end Go.Proofs.Ytmmfbjmjhjmccaa.Am
