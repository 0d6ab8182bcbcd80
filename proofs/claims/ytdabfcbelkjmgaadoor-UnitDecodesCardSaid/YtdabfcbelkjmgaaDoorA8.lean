/-
  The abstract machine, A8: what the decompiled functions are made of; cuts.
-/
import Derived.Test.YtdabfcbelkjmgaaDoorA6
namespace Go.Proofs.YtdabfcbelkjmgaaDoor.Am
set_option linter.unusedSimpArgs false
set_option linter.unusedVariables false
open Go
/-! ### Plain words -/
def gd {α : Type} (p : Prop) [Decidable p] (k : Option α) : Option α := if p then k else none
theorem gd_some {α : Type} {p : Prop} [Decidable p] {k : Option α} {r : α} : gd p k = some r ↔ p ∧ k = some r := by
  unfold gd; by_cases h : p <;> simp [h]
theorem gd_of {α : Type} {p : Prop} [Decidable p] {k : Option α} (h : p) : gd p k = k := if_pos h
theorem cond_t {α : Type} {b : Bool} {x y z : α} (hb : b = true) (h : (bif b then x else y) = z) : x = z := by subst hb; exact h
theorem cond_f {α : Type} {b : Bool} {x y z : α} (hb : b = false) (h : (bif b then x else y) = z) : y = z := by subst hb; exact h
def I64 (n : Int) : Prop := -9223372036854775808 ≤ n ∧ n ≤ 9223372036854775807
instance (n : Int) : Decidable (I64 n) := inferInstanceAs (Decidable (_ ∧ _))
def nth {α : Type} (l : List α) (i : Int) : Option α := if 0 ≤ i then l[i.toNat]? else none
theorem nth_some {α : Type} {l : List α} {i : Int} {x : α} (h : nth l i = some x) : (0 ≤ i ∧ i < l.length) ∧ ∀ d, l.getD i.toNat d = x := by
  unfold nth at h
  split at h
  · rename_i h0
    obtain ⟨h1, h2⟩ := List.getElem?_eq_some_iff.1 h
    refine ⟨⟨h0, by omega⟩, fun d => ?_⟩
    rw [List.getD_eq_getElem?_getD, h]; rfl
  · cases h
theorem ixs {α : Type} {l : List α} {i : Int} {x : α} (h : nth l i = some x) (d : α) : l.getD i.toNat d = x := (nth_some h).2 d
theorem nth_of {α : Type} {l : List α} {i : Int} (d : α) (h0 : 0 ≤ i) (h1 : i < l.length) : nth l i = some (l.getD i.toNat d) := by
  unfold nth
  rw [if_pos h0, List.getD_eq_getElem?_getD, List.getElem?_eq_getElem (by omega)]; rfl
theorem nth_nat {α : Type} {l : List α} {k : Nat} : nth l (k : Int) = l[k]? := by
  unfold nth; rw [if_pos (by omega)]; rfl
theorem nth_none {α : Type} {l : List α} {i : Int} (h : i < 0 ∨ (l.length : Int) ≤ i) : nth l i = none := by
  unfold nth
  split
  · exact List.getElem?_eq_none (by omega)
  · rfl

/-! ### Cuts -/
section
variable {Γ : Ctx}
theorem awp_monoLe {c : AC} {Q Q' : AE → St → Prop} {s : St} (h : awp Γ c Q s) (k : ∀ e s, Q e s → Q' e s ∨ ∃ s', Le s' s ∧ Q' e s') : awp Γ c Q' s := by
  intro code hc σ a hA
  refine wpIn_mono (h code hc σ a hA) ?_
  rintro e a' w' ⟨σ', s', e', h1, h2, h3, h4, h5⟩
  rcases k _ _ h5 with h6 | ⟨s'', hl, hq⟩
  · exact ⟨σ', s', e', h1, h2, h3, h4, h6⟩
  · obtain ⟨σ'', g1, g2, g3⟩ := h3.le hl
    exact ⟨σ'', s'', e', g1.trans h1, Γ.tr h2 (Γ.ofE g2), g3, h4, hq⟩
def cutK {X : Type} (e0 : AE) (I : X → St) (Pre : X → Prop) (K : AE → St → Prop) (e : AE) (s : St) : Prop := (e = e0 ∧ ∃ x, Pre x ∧ Le (I x) s) ∨ (e ≠ e0 ∧ K e s)
theorem cutK_h {X : Type} {e0 : AE} {I : X → St} {Pre : X → Prop} {K : AE → St → Prop} {s : St} (x : X) (h : Pre x) (hl : Le (I x) s) : cutK e0 I Pre K e0 s := .inl ⟨rfl, x, h, hl⟩
theorem cutK_o {X : Type} {e0 e : AE} {I : X → St} {Pre : X → Prop} {K : AE → St → Prop} {s : St} (h : e ≠ e0) (hK : K e s) : cutK e0 I Pre K e s := .inr ⟨h, hK⟩
theorem awp_cut {X : Type} (I : X → St) (Pre : X → Prop) (e0 : AE) {K : AE → St → Prop} {c : AC} {s : St} (h1 : awp Γ c (cutK e0 I Pre K) s) (h2 : ∀ x, Pre x → K e0 (I x)) : awp Γ c K s := by
  refine awp_monoLe h1 fun e s h => ?_
  rcases h with ⟨rfl, x, hx, hl⟩ | ⟨_, h⟩
  · exact .inr ⟨I x, hl, h2 x hx⟩
  · exact .inl h
theorem awp_cb {B B' : Bool} {cc : Opd} {x y : AC} {Q : AE → St → Prop} {e : Env} {h : Hp} {c : Nat} (hb : ung true (opv e cc) = .v (.bool B)) (hB : B = B') (ht : B' = true → awp Γ x Q ⟨e, h, c⟩) (hf : B' = false → awp Γ y Q ⟨e, h, c⟩) : awp Γ (.cond cc x y) Q ⟨e, h, c⟩ := by
  subst hB
  exact awp_cond hb ht hf
end
end Go.Proofs.YtdabfcbelkjmgaaDoor.Am
