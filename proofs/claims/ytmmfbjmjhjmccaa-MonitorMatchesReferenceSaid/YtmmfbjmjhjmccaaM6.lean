/-
  Plain laws: what gives the bounds.
-/
import Derived.Test.YtmmfbjmjhjmccaaP12
import Derived.Test.YtmmfbjmjhjmccaaM4
namespace Go.Proofs.Ytmmfbjmjhjmccaa.Am
set_option linter.unusedSimpArgs false
set_option linter.unusedVariables false
open Go
attribute [local irreducible] made05 made24
/-- A fact, with its number. -/
theorem counted_idx {d : Int} {R : List Rd3} {tol : Int} : ∀ {S : List Sm} {i : Int} (f : Fc), f ∈ countedL d R tol i S → ∃ (k : Nat) (s : Sm), S[k]? = some s ∧ (atS d R s.1).2.2 = 0 ∧ f = (i + k, s.2 - tol, s.2 + tol, (atS d R s.1).1, (atS d R s.1).2.1)
  | [], i, f, hf => by simp [countedL] at hf
  | (a, v) :: S, i, f, hf => by
    simp only [countedL] at hf
    have ih : f ∈ countedL d R tol (i + 1) S → ∃ (k : Nat) (s : Sm), ((a, v) :: S)[k]? = some s ∧ (atS d R s.1).2.2 = 0 ∧ f = (i + k, s.2 - tol, s.2 + tol, (atS d R s.1).1, (atS d R s.1).2.1) := fun h => by
      obtain ⟨k, s, h1, h2, h3⟩ := @counted_idx d R tol S (i + 1) f h
      exact ⟨k + 1, s, by simpa using h1, h2, by rw [h3]; congr 1; omega⟩
    split at hf
    · rename_i h0
      rcases List.mem_cons.1 hf with rfl | hf
      · exact ⟨0, (a, v), rfl, h0, by simp⟩
      · exact ih hf
    · exact ih hf

theorem fold_from {rate t : Int} : ∀ (xs : List Fc) (b : Bd),
    (((xs.foldl (lookStep rate t) b).1 = b.1 ∧ (xs.foldl (lookStep rate t) b).2.2.1 = b.2.2.1) ∨ ∃ f ∈ xs, (xs.foldl (lookStep rate t) b).1 = f.2.1 - reachS rate f t ∧ (xs.foldl (lookStep rate t) b).2.2.1 = f.1) ∧
    (((xs.foldl (lookStep rate t) b).2.1 = b.2.1 ∧ (xs.foldl (lookStep rate t) b).2.2.2 = b.2.2.2) ∨ ∃ f ∈ xs, (xs.foldl (lookStep rate t) b).2.1 = f.2.2.1 + reachS rate f t ∧ (xs.foldl (lookStep rate t) b).2.2.2 = f.1)
  | [], b => by simp
  | f :: xs, b => by
    rw [List.foldl_cons]
    obtain ⟨h1, h2⟩ := @fold_from rate t xs (lookStep rate t b f)
    have hs : (((lookStep rate t b f).1 = b.1 ∧ (lookStep rate t b f).2.2.1 = b.2.2.1) ∨ ((lookStep rate t b f).1 = f.2.1 - reachS rate f t ∧ (lookStep rate t b f).2.2.1 = f.1)) ∧
      (((lookStep rate t b f).2.1 = b.2.1 ∧ (lookStep rate t b f).2.2.2 = b.2.2.2) ∨ ((lookStep rate t b f).2.1 = f.2.2.1 + reachS rate f t ∧ (lookStep rate t b f).2.2.2 = f.1)) := by
      unfold lookStep
      simp only
      split <;> split <;> (try dsimp only at *) <;> simp
    obtain ⟨s1, s2⟩ := hs
    constructor
    · rcases h1 with ⟨e1, e2⟩ | ⟨g, hg, e1, e2⟩
      · rw [e1, e2]
        rcases s1 with s | s
        · exact .inl s
        · exact .inr ⟨f, by simp, s⟩
      · exact .inr ⟨g, by simp [hg], e1, e2⟩
    · rcases h2 with ⟨e1, e2⟩ | ⟨g, hg, e1, e2⟩
      · rw [e1, e2]
        rcases s2 with s | s
        · exact .inl s
        · exact .inr ⟨f, by simp, s⟩
      · exact .inr ⟨g, by simp [hg], e1, e2⟩

/-- The samples whose numbers are a or b. -/
def fewS (a b : Int) (S : List Sm) : Nat → List Sm
  | 0 => []
  | n + 1 => if (n : Int) = a ∨ (n : Int) = b then fewS a b S n ++ [S.getD n (0, 0)] else fewS a b S n
theorem few_sub (a b : Int) (S : List Sm) : ∀ n, n ≤ S.length → (fewS a b S n).Sublist (S.take n)
  | 0, _ => by simp [fewS]
  | n + 1, h => by
    have ih := few_sub a b S n (by omega)
    have e : S.take (n + 1) = S.take n ++ [S.getD n (0, 0)] := by
      rw [List.take_add_one]
      simp [List.getD_eq_getElem?_getD, (by omega : n < S.length)]
    rw [e]
    simp only [fewS]
    split
    · exact ih.append (List.Sublist.refl _)
    · exact ih.trans (List.sublist_append_left _ _)
theorem few_len (a b : Int) (S : List Sm) : ∀ n, (fewS a b S n).length ≤ n
  | 0 => by simp [fewS]
  | n + 1 => by
    have ih := few_len a b S n
    simp only [fewS]
    split
    · simp; omega
    · omega
theorem few_mem {a b : Int} {S : List Sm} {k : Nat} {s : Sm} (hk : S[k]? = some s) (h : (k : Int) = a ∨ (k : Int) = b) : ∀ n, k < n → s ∈ fewS a b S n
  | 0, h0 => by omega
  | n + 1, h0 => by
    simp only [fewS]
    by_cases e : k = n
    · subst e
      rw [if_pos h]
      simp [List.getD_eq_getElem?_getD, hk]
    · have := few_mem hk h n (by omega)
      split
      · exact List.mem_append_left _ this
      · exact this

/-- The bounds of the samples that Reason names. -/
theorem reasons {d : Int} {R : List Rd3} {tol rate : Int} {S : List Sm} {t : Int} :
    (-1 ≤ (lookS rate t (countedL d R tol 0 S)).2.2.1 ∧ (lookS rate t (countedL d R tol 0 S)).2.2.1 < S.length) ∧ (-1 ≤ (lookS rate t (countedL d R tol 0 S)).2.2.2 ∧ (lookS rate t (countedL d R tol 0 S)).2.2.2 < S.length) ∧
    (lookS rate t (countedL d R tol 0 (fewS (lookS rate t (countedL d R tol 0 S)).2.2.1 (lookS rate t (countedL d R tol 0 S)).2.2.2 S S.length))).1 = (lookS rate t (countedL d R tol 0 S)).1 ∧
    (lookS rate t (countedL d R tol 0 (fewS (lookS rate t (countedL d R tol 0 S)).2.2.1 (lookS rate t (countedL d R tol 0 S)).2.2.2 S S.length))).2.1 = (lookS rate t (countedL d R tol 0 S)).2.1 := by
  obtain ⟨h1, h2⟩ := @fold_from rate t (countedL d R tol 0 S) (-1000000, 1000000, -1, -1)
  change ((lookS rate t (countedL d R tol 0 S)).1 = _ ∧ (lookS rate t (countedL d R tol 0 S)).2.2.1 = _) ∨ (∃ f ∈ _, (lookS rate t (countedL d R tol 0 S)).1 = _ ∧ (lookS rate t (countedL d R tol 0 S)).2.2.1 = _) at h1
  change ((lookS rate t (countedL d R tol 0 S)).2.1 = _ ∧ (lookS rate t (countedL d R tol 0 S)).2.2.2 = _) ∨ (∃ f ∈ _, (lookS rate t (countedL d R tol 0 S)).2.1 = _ ∧ (lookS rate t (countedL d R tol 0 S)).2.2.2 = _) at h2
  obtain ⟨B, hB⟩ : ∃ B, lookS rate t (countedL d R tol 0 S) = B := ⟨_, rfl⟩
  have hsub : (fewS B.2.2.1 B.2.2.2 S S.length).Sublist S := by
    have := few_sub B.2.2.1 B.2.2.2 S S.length (Nat.le_refl _)
    rwa [List.take_length] at this
  have hn := @narrows d R tol tol rate rate S (fewS B.2.2.1 B.2.2.2 S S.length) t (fun s hs => hsub.subset hs) (Int.le_refl _) (Int.le_refl _)
  rw [hB] at h1 h2 hn ⊢
  obtain ⟨C, hC⟩ : ∃ C, countedL d R tol 0 (fewS B.2.2.1 B.2.2.2 S S.length) = C := ⟨_, rfl⟩
  have cl := (look_low (rate := rate) (t := t) (xs := C) (z := (lookS rate t C).1)).1 (Int.le_refl _)
  have ch := (look_high (rate := rate) (t := t) (xs := C) (z := (lookS rate t C).2.1)).1 (Int.le_refl _)
  have key1 : (-1 ≤ B.2.2.1 ∧ B.2.2.1 < S.length) ∧ B.1 ≤ (lookS rate t C).1 := by
    rcases h1 with ⟨e1, e2⟩ | ⟨f, hf, e1, e2⟩
    · simp only at e1 e2
      omega
    · obtain ⟨k, s, k1, k2, k3⟩ := counted_idx f hf
      have hk : k < S.length := by
        rcases Nat.lt_or_ge k S.length with h | h
        · exact h
        · rw [List.getElem?_eq_none h] at k1; simp at k1
      have hm := @few_mem B.2.2.1 B.2.2.2 S k s k1 (.inl (by rw [e2, k3]; simp)) S.length hk
      obtain ⟨j, hj⟩ := counted_mem (tol := tol) (i := 0) hm k2
      rw [hC] at hj
      have hz := cl.2 _ hj
      refine ⟨by rw [e2, k3]; simp only; omega, ?_⟩
      rw [e1, k3]
      exact hz
  have key2 : (-1 ≤ B.2.2.2 ∧ B.2.2.2 < S.length) ∧ (lookS rate t C).2.1 ≤ B.2.1 := by
    rcases h2 with ⟨e1, e2⟩ | ⟨f, hf, e1, e2⟩
    · simp only at e1 e2
      omega
    · obtain ⟨k, s, k1, k2, k3⟩ := counted_idx f hf
      have hk : k < S.length := by
        rcases Nat.lt_or_ge k S.length with h | h
        · exact h
        · rw [List.getElem?_eq_none h] at k1; simp at k1
      have hm := @few_mem B.2.2.1 B.2.2.2 S k s k1 (.inr (by rw [e2, k3]; simp)) S.length hk
      obtain ⟨j, hj⟩ := counted_mem (tol := tol) (i := 0) hm k2
      rw [hC] at hj
      have hz := ch.2 _ hj
      refine ⟨by rw [e2, k3]; simp only; omega, ?_⟩
      rw [e1, k3]
      exact hz
  rw [hC] at hn ⊢
  omega

/-- Of a story's gauge. -/
theorem reasons_sound (x : Sty) {t : Int} (ht : 0 ≤ t ∧ t ≤ 10000) : ∃ l h a b, boundsS (made24 x) t = (l, h, 0) ∧ reasonS (made24 x) t = (a, b, 0) ∧ -1 ≤ a ∧ a < (made24 x).S.length ∧ -1 ≤ b ∧ b < (made24 x).S.length ∧
    boundsS ⟨(made24 x).d, (made24 x).R, (made24 x).tol, (made24 x).rate, fewS a b (made24 x).S (made24 x).S.length⟩ t = (l, h, 0) := by
  obtain ⟨l, h, a1, a2, a3, a4, a5, a6⟩ := bounds_sound x ht
  have hv := made24_valid x
  obtain ⟨f1, _, _⟩ := found_sound x ht
  obtain ⟨v1, v2, v3, v4, v5⟩ := validG_parts hv
  obtain ⟨r1, r2, r3, r4⟩ := @reasons (made24 x).d (made24 x).R (made24 x).tol (made24 x).rate (made24 x).S t
  have hsub : ∀ a b, (fewS a b (made24 x).S (made24 x).S.length).Sublist (made24 x).S := fun a b => by
    have := few_sub a b (made24 x).S (made24 x).S.length (Nat.le_refl _)
    rwa [List.take_length] at this
  have e1 : (lookS (made24 x).rate t (countedL (made24 x).d (made24 x).R (made24 x).tol 0 (made24 x).S)).1 = l := by rw [← a3, f1]; rfl
  have e2 : (lookS (made24 x).rate t (countedL (made24 x).d (made24 x).R (made24 x).tol 0 (made24 x).S)).2.1 = h := by rw [← a4, f1]; rfl
  refine ⟨l, h, (lookS (made24 x).rate t (countedL (made24 x).d (made24 x).R (made24 x).tol 0 (made24 x).S)).2.2.1, (lookS (made24 x).rate t (countedL (made24 x).d (made24 x).R (made24 x).tol 0 (made24 x).S)).2.2.2, a1, ?_, r1.1, r1.2, r2.1, r2.2, ?_⟩
  · unfold reasonS
    rw [f1]
    rfl
  · have hs := hsub (lookS (made24 x).rate t (countedL (made24 x).d (made24 x).R (made24 x).tol 0 (made24 x).S)).2.2.1 (lookS (made24 x).rate t (countedL (made24 x).d (made24 x).R (made24 x).tol 0 (made24 x).S)).2.2.2
    obtain ⟨S', hS'⟩ : ∃ S', fewS (lookS (made24 x).rate t (countedL (made24 x).d (made24 x).R (made24 x).tol 0 (made24 x).S)).2.2.1 (lookS (made24 x).rate t (countedL (made24 x).d (made24 x).R (made24 x).tol 0 (made24 x).S)).2.2.2 (made24 x).S (made24 x).S.length = S' := ⟨_, rfl⟩
    rw [hS'] at r3 r4 hs ⊢
    have hv' : validG ⟨(made24 x).d, (made24 x).R, (made24 x).tol, (made24 x).rate, S'⟩ = true := by
      have := hs.length_le
      simp only [validG, Bool.and_eq_true, decide_eq_true_eq]
      exact ⟨chain2_sub hs v1, ⟨⟨v2, by omega, by omega⟩, by omega, by omega⟩, by omega⟩
    have hlh : l ≤ h := by omega
    have hf : foundS ⟨(made24 x).d, (made24 x).R, (made24 x).tol, (made24 x).rate, S'⟩ t = (lookS (made24 x).rate t (countedL (made24 x).d (made24 x).R (made24 x).tol 0 S'), true) := by
      unfold foundS
      rw [if_pos ⟨hv', by omega⟩]
      have : (lookS (made24 x).rate t (countedL (made24 x).d (made24 x).R (made24 x).tol 0 S')).1 ≤ (lookS (made24 x).rate t (countedL (made24 x).d (made24 x).R (made24 x).tol 0 S')).2.1 := by omega
      simp only [factsG, this, decide_true]
    unfold boundsS
    rw [hf]
    simp only [if_true, r3, r4, e1, e2]
end Go.Proofs.Ytmmfbjmjhjmccaa.Am
