import Derived.Test.YtdabfcbelkjmgaaDoorP1
import Derived.Test.YtdabfcbelkjmgaaDoorA11
/-
  Plane: the iterator over edges within a round of another one.
-/
namespace Go.Proofs.YtdabfcbelkjmgaaDoor.Am
open Go
set_option linter.unusedVariables false
theorem ii_tr {σ σ' : Cf} {b : Nat} (hw : σ'.w.heap[b]? = σ.w.heap[b]?) : ∀ (l : List Pt) (o : Nat), RepRows σ 2 b o (l.map e_ii) → RepRows σ' 2 b o (l.map e_ii)
  | [], o, h => by simp [RepRows]
  | p :: l, o, h => by
    simp only [List.map_cons, RepRows, e_ii, RepCells, Rep, List.length_cons, List.length_nil] at h ⊢
    obtain ⟨_, ⟨⟨x, h1, h2, h3⟩, ⟨y, h4, h5, h6⟩, _⟩, h7⟩ := h
    refine ⟨trivial, ⟨⟨x, ?_, h2, h3⟩, ⟨y, ?_, h5, h6⟩, trivial⟩, ii_tr hw l (o + 2) h7⟩
    · rw [cell_of_heap hw]; exact h1
    · rw [cell_of_heap hw]; exact h4
theorem edges_tr (l : List Pt) (f : Bool) (d : List AV) : TrL [] ∧ TrL [.ro [.sl 2 f (l.map e_ii) d] 0] := by
  refine ⟨TrL.nil, fun σ σ' hf hw vs h => ?_⟩
  simp only [RepL, Rep, RepCells] at h ⊢
  obtain ⟨y, ys, rfl, ⟨b, o, h1, h2, h3, ⟨x, h4, h5, base, cap, h6, h7, h8, h9, h10⟩, _⟩, rfl⟩ := h
  have hb := hf b h2 (not_cell h4)
  refine ⟨y, [], rfl, ⟨b, o, h1, hb, h3, ⟨x, by rw [cell_of_heap (hw b h2)]; exact h4, h5, base, cap, h6, h7, h8, h9, ?_⟩, trivial⟩, rfl⟩
  rcases h10 with h10 | ⟨b', o', rfl, k1, k2⟩
  · exact .inl h10
  · cases l with
    | nil => exact .inl rfl
    | cons p l =>
      have k3 := k2
      simp only [List.map_cons, RepRows, e_ii, RepCells] at k3
      obtain ⟨_, ⟨⟨z, k4, _⟩, _⟩, _⟩ := k3
      exact .inr ⟨b', o', rfl, hf b' k1 (not_cell k4), ii_tr (hw b' k1) _ _ k2⟩
end Go.Proofs.YtdabfcbelkjmgaaDoor.Am
