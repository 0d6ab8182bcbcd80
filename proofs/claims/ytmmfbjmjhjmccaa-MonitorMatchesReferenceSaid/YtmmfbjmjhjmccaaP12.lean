import Derived.Test.YtmmfbjmjhjmccaaP11
import Derived.Test.YtmmfbjmjhjmccaaM3
import Derived.Test.YtmmfbjmjhjmccaaA7
namespace Go.Proofs.Ytmmfbjmjhjmccaa.Am
open Go
attribute [local irreducible] awp seqK blkK backK endK inlK restK rngK asgK itK
set_option maxRecDepth 100000
set_option maxHeartbeats 8000000
set_option linter.unusedSimpArgs false
set_option linter.unusedVariables false
attribute [local irreducible] made24 foundS valueS
/-! ### Arguments of laws -/
abbrev shSt : List Cs := [.i, .i, .s [.i], .s [.i, .i, .i], .i, .i, .i, .s [.i], .s [.i, .i]]
theorem rows1_of {rows : List (List AV)} (h : ∀ r ∈ rows, CellsOK [.i] r) : ∃ l : List Int, rows = l.map row1 ∧ ∀ n ∈ l, inI n := by
  induction rows with
  | nil => exact ⟨[], rfl, by simp⟩
  | cons r rows ih =>
    obtain ⟨l, rfl, h2⟩ := ih fun r hr => h r (by simp [hr])
    have := h r (by simp)
    simp only [CellsOK, CellOK] at this
    obtain ⟨a, _, rfl, ⟨n, hn, rfl⟩, rfl⟩ := this
    exact ⟨n :: l, rfl, fun m hm => by rcases List.mem_cons.1 hm with rfl | hm; exact hn; exact h2 m hm⟩
theorem rows2_of {rows : List (List AV)} (h : ∀ r ∈ rows, CellsOK [.i, .i] r) : ∃ l : List Sm, rows = l.map row2 ∧ ∀ n ∈ l, inI n.1 ∧ inI n.2 := by
  induction rows with
  | nil => exact ⟨[], rfl, by simp⟩
  | cons r rows ih =>
    obtain ⟨l, rfl, h2⟩ := ih fun r hr => h r (by simp [hr])
    have := h r (by simp)
    simp only [CellsOK, CellOK] at this
    obtain ⟨a, _, rfl, ⟨n, hn, rfl⟩, b, _, rfl, ⟨n', hn', rfl⟩, rfl⟩ := this
    exact ⟨(n, n') :: l, rfl, fun m hm => by rcases List.mem_cons.1 hm with rfl | hm; exact ⟨hn, hn'⟩; exact h2 m hm⟩
theorem rows3_of {rows : List (List AV)} (h : ∀ r ∈ rows, CellsOK [.i, .i, .i] r) : ∃ l : List Rd3, rows = l.map row3 ∧ ∀ n ∈ l, inI n.1 ∧ inI n.2.1 ∧ inI n.2.2 := by
  induction rows with
  | nil => exact ⟨[], rfl, by simp⟩
  | cons r rows ih =>
    obtain ⟨l, rfl, h2⟩ := ih fun r hr => h r (by simp [hr])
    have := h r (by simp)
    simp only [CellsOK, CellOK] at this
    obtain ⟨a, _, rfl, ⟨n, hn, rfl⟩, b, _, rfl, ⟨n', hn', rfl⟩, c, _, rfl, ⟨n'', hn'', rfl⟩, rfl⟩ := this
    exact ⟨(n, n', n'') :: l, rfl, fun m hm => by rcases List.mem_cons.1 hm with rfl | hm; exact ⟨hn, hn', hn''⟩; exact h2 m hm⟩
theorem story_of {a : AV} (h : ArgOK (true, shSt) a) : ∃ x : Sty, x.In ∧ a = .agg (stCells x false false false false [] [] [] []) := by
  simp only [ArgOK] at h
  obtain ⟨cs, rfl, h⟩ := h
  simp only [CellsOK, CellOK] at h
  obtain ⟨_, _, rfl, ⟨n1, h1, rfl⟩, _, _, rfl, ⟨n2, h2, rfl⟩, _, _, rfl, ⟨r3, rfl, h3⟩, _, _, rfl, ⟨r4, rfl, h4⟩, _, _, rfl, ⟨n5, h5, rfl⟩, _, _, rfl, ⟨n6, h6, rfl⟩, _, _, rfl, ⟨n7, h7, rfl⟩, _, _, rfl, ⟨r8, rfl, h8⟩, _, _, rfl, ⟨r9, rfl, h9⟩, rfl⟩ := h
  obtain ⟨l3, rfl, k3⟩ := rows1_of (by simpa only [CellsOK, CellOK] using h3)
  obtain ⟨l4, rfl, k4⟩ := rows3_of (by simpa only [CellsOK, CellOK] using h4)
  obtain ⟨l8, rfl, k8⟩ := rows1_of (by simpa only [CellsOK, CellOK] using h8)
  obtain ⟨l9, rfl, k9⟩ := rows2_of (by simpa only [CellsOK, CellOK] using h9)
  exact ⟨⟨n1, n2, l3, l4, n5, n6, n7, l8, l9⟩, ⟨h1, h2, k3, k4, h5, h6, h7, k8, k9⟩, rfl⟩
theorem int_of {a : AV} (h : ArgOK (false, [.i]) a) : ∃ n, inI n ∧ a = .i n := by
  simp only [ArgOK, CellsOK, CellOK] at h
  obtain ⟨_, _, e, ⟨n, hn, rfl⟩, rfl⟩ := h
  simp at e
  exact ⟨n, hn, e⟩

def S40 : List (Nat × Spec) := [(11, sSane), (12, sMade24), (15, sPick), (28, sValue), (18, sBounds), (22, sBoth)]
theorem S40_ok : TabOK Try.prog (tabOf S40) := tab_cons sane_fok (tab_cons made24_fok (tab_cons pick_fok (tab_cons value_fok (tab_cons bounds_fok (tab_cons both_fok tab_nil)))))

/-- The bounds of a story's gauge. -/
theorem bounds_sound (x : Sty) {t : Int} (ht : 0 ≤ t ∧ t ≤ 10000) : ∃ l h, boundsS (made24 x) t = (l, h, 0) ∧ (foundS (made24 x) t).2 = true ∧ (foundS (made24 x) t).1.1 = l ∧ (foundS (made24 x) t).1.2.1 = h ∧ l ≤ valueS x.rate x.first x.steps t.toNat ∧ valueS x.rate x.first x.steps t.toNat ≤ h := by
  obtain ⟨h1, h2, h3⟩ := found_sound x ht
  refine ⟨_, _, ?_, by rw [h1], rfl, rfl, by rw [h1]; exact h2, by rw [h1]; exact h3⟩
  unfold boundsS
  rw [h1]
  rfl
theorem both_sound {A B : Ga} {t l h l' h' v : Int} (hA : (foundS A t).2 = true) (hA1 : (foundS A t).1.1 = l) (hA2 : (foundS A t).1.2.1 = h) (hB : (foundS B t).2 = true) (hB1 : (foundS B t).1.1 = l') (hB2 : (foundS B t).1.2.1 = h') (h1 : l ≤ v) (h2 : v ≤ h) (h3 : l' ≤ v) (h4 : v ≤ h') :
    bothS A B t = (max l l', min h h', 0) := by
  unfold bothS
  rw [hA1, hA2, hB1, hB2, if_pos ⟨hA, hB, by omega⟩]

end Go.Proofs.Ytmmfbjmjhjmccaa.Am
