/-
  The abstract machine, part 22: who ranges over a function, and the function: two views of one memory.
-/
import Derived.Test.YtmmfbjmjhjmccaaAm21
namespace Go.Proofs.Ytmmfbjmjhjmccaa.Am
set_option linter.unusedSimpArgs false
set_option linter.unusedVariables false
open Go

/-- so: the view of the one who ranges, si: that of the function; l, D: the loop's two blocks; O0: what is others' for both. -/
structure Pair (O0 : Nat → Prop) (l D : Nat) (so si : Cf) : Prop where
  w : so.w = si.w
  oi : ∀ b, si.O b ↔ so.M b ∨ O0 b ∨ b = l ∨ b = D
  oo : ∀ b, so.O b ↔ O0 b ∨ (si.M b ∧ b < si.w.heap.size)
  di : ∀ b, si.M b → ¬ si.O b
  ob : ∀ b, si.O b → b < si.w.heap.size

/-- From the state at which the loop begins. -/
structure Way (ss so si : Cf) : Prop where
  box : ∀ n, ss.al n → so.al n ∧ so.rb n = ss.rb n
  arr : ∀ n, ss.al n → ∀ l', so.ln n = some l' → ∃ l, ss.ln n = some l ∧ l ≤ l' ∧ (l = l' → so.ra n = ss.ra n)
  old : ∀ b o, ss.w.heap[b]? = some o → ¬ ss.M b → so.w.heap[b]? = some o ∧ ¬ so.M b
  ni : ∀ b, b < ss.w.heap.size → ¬ si.M b
  sz : ss.w.heap.size ≤ so.w.heap.size
  io : SameO ss.w so.w

theorem not_cell {w : World} {b o : Nat} {x : Value} (h : w.cell? ⟨b, o, none⟩ = some x) : ∃ cs T f, w.heap[b]? = some (.cells cs T f) := by
  simp only [World.cell?] at h
  split at h
  · rename_i cs T f hb
    exact ⟨cs, T, f, hb⟩
  · simp at h

/-- The function has gone on. -/
theorem pair_step {O0 : Nat → Prop} {l D : Nat} {ss so si si' : Cf} (hp : Pair O0 l D so si) (hw : Way ss so si)
    (hdis : ∀ b, so.M b → ¬ so.O b) (hO : si'.O = si.O) (hsz : si.w.heap.size ≤ si'.w.heap.size) (hio : SameO si.w si'.w) (hM : ∀ b, b < si.w.heap.size → ¬ si.M b → ¬ si'.M b)
    (hP : ∀ (b : Nat) (o : Obj), (b < ss.w.heap.size ∨ si.O b) → ¬ si.M b → si.w.heap[b]? = some o → si'.w.heap[b]? = some o)
    (hF : ∀ b o x, Fz si b → si.w.cell? ⟨b, o, none⟩ = some x → si'.w.cell? ⟨b, o, none⟩ = some x)
    (hl : ∀ cs T f, si.w.heap[l]? ≠ some (.cells cs T f)) (hD : ∀ cs T f, si.w.heap[D]? ≠ some (.cells cs T f)) :
    ∃ so' : Cf, Pair O0 l D so' si' ∧ Way ss so' si' ∧ Oth so so' ∧ so'.M = so.M ∧ ∀ b, b < so.w.heap.size → ¬ so.O b → ¬ so'.O b := by
  obtain ⟨h1, h2, h3, h4, h5⟩ := hp
  have obM : ∀ b, so.M b → si.O b := fun b hb => (h2 b).2 (.inl hb)
  have noM : ∀ b, si.O b → ¬ si.M b := fun b hO hM => h4 b hM hO
  have keep : ∀ b, si.O b → si'.w.heap[b]? = si.w.heap[b]? := fun b hb => by
    have := Array.getElem?_eq_getElem (h5 b hb)
    rw [this]; exact hP b _ (.inr hb) (noM b hb) this
  let so' : Cf := { so with w := si'.w, O := fun b => O0 b ∨ (si'.M b ∧ b < si'.w.heap.size) }
  have dj : ∀ b, si'.M b → ¬ si.O b := fun b hb hO => hM b (h5 b hO) (noM b hO) hb
  refine ⟨so', ⟨rfl, fun b => by rw [hO]; exact h2 b, fun b => Iff.rfl, fun b hb => by rw [hO]; exact dj b hb, fun b hb => by rw [hO] at hb; exact Nat.lt_of_lt_of_le (h5 b hb) hsz⟩,
    ⟨hw.box, hw.arr, fun b o hb hm => ?_, fun b hb => ?_, ?_, hw.io.trans (by rw [h1]; exact hio)⟩, ⟨rfl, rfl, rfl, rfl, rfl, fun b hb => ?_, by rw [h1]; exact hsz, fun b hb => by rw [h1]; exact keep b (obM b hb), fun b o x hf hc => ?_, by rw [h1]; exact hio⟩, rfl, fun b hlt hn => ?_⟩
  · obtain ⟨g1, g2⟩ := hw.old b o hb hm
    have hlt := (Array.getElem?_eq_some_iff.1 hb).1
    rw [h1] at g1
    exact ⟨hP b o (.inl hlt) (hw.ni b hlt) g1, g2⟩
  · have : b < si.w.heap.size := by rw [← h1]; exact Nat.lt_of_lt_of_le hb hw.sz
    exact hM b this (hw.ni b hb)
  · exact Nat.le_trans hw.sz (by rw [h1]; exact hsz)
  · have hs : so.w.heap.size = si.w.heap.size := by rw [h1]
    rcases hb with hb | ⟨hb, hlt⟩
    · have hO' : si.O b := (h2 b).2 (.inr (.inl hb))
      have hso : so.O b := (h3 b).2 (.inl hb)
      exact ⟨Nat.lt_of_lt_of_le (h5 b hO') hsz, fun hm => hdis b hm hso, fun hf => hf.2.1 hso⟩
    · refine ⟨hlt, fun hm => dj b hb (obM b hm), fun hf => ?_⟩
      have hlt' : b < si.w.heap.size := by rw [← hs]; exact hf.2.2
      refine hM b hlt' (fun hm => hf.2.1 ((h3 b).2 (.inr ⟨hm, hlt'⟩))) hb
  · rw [h1] at hc
    obtain ⟨cs, T, f, hcs⟩ := not_cell hc
    have hlt' : b < si.w.heap.size := (Array.getElem?_eq_some_iff.1 hcs).1
    refine hF b o x ⟨fun hm => hf.2.1 ((h3 b).2 (.inr ⟨hm, hlt'⟩)), fun hO' => ?_, hlt'⟩ hc
    rcases (h2 b).1 hO' with g | g | rfl | rfl
    · exact hf.1 g
    · exact hf.2.1 ((h3 b).2 (.inl g))
    · exact hl _ _ _ hcs
    · exact hD _ _ _ hcs
  · rintro (h | ⟨h, _⟩)
    · exact hn ((h3 b).2 (.inl h))
    · rw [h1] at hlt
      exact hM b hlt (fun hm => hn ((h3 b).2 (.inr ⟨hm, hlt⟩))) h
end Go.Proofs.Ytmmfbjmjhjmccaa.Am
