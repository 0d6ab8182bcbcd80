/-
  The abstract machine, part 24: one round.
-/
import Derived.Test.YtmmfbjmjhjmccaaAm23
namespace Go.Proofs.Ytmmfbjmjhjmccaa.Am
set_option linter.unusedSimpArgs false
set_option linter.unusedVariables false
open Go

/-- The way through a round: but for the loop's own block. -/
structure Rd (l : Nat) (σ σ' : Cf) : Prop where
  box : ∀ n, σ.al n → σ'.al n ∧ σ'.rb n = σ.rb n
  arr : ∀ n, σ.al n → ∀ l', σ'.ln n = some l' → ∃ l, σ.ln n = some l ∧ l ≤ l' ∧ (l = l' → σ'.ra n = σ.ra n)
  fro : ∀ b o, b ≠ l → σ.w.heap[b]? = some o → ¬ σ.M b → σ'.w.heap[b]? = some o ∧ ¬ σ'.M b
  out : σ'.O = σ.O
  sz : σ.w.heap.size ≤ σ'.w.heap.size
  io : SameO σ.w σ'.w

theorem Evo.rd {l : Nat} {σ σ' : Cf} (h : Evo σ σ') : Rd l σ σ' := ⟨h.box, h.arr, fun b o _ => h.fro b o, h.out, h.sz, h.io⟩
theorem Rd.trans {l : Nat} {a b c : Cf} (h : Rd l a b) (k : Rd l b c) : Rd l a c where
  box n hn := ⟨(k.box n (h.box n hn).1).1, ((k.box n (h.box n hn).1).2).trans (h.box n hn).2⟩
  arr n hn l' hl' := by
    obtain ⟨l, h1, h2, h3⟩ := k.arr n (h.box n hn).1 l' hl'
    obtain ⟨m, g1, g2, g3⟩ := h.arr n hn l h1
    refine ⟨m, g1, Nat.le_trans g2 h2, fun e => ?_⟩
    have e1 : m = l := by omega
    have e2 : l = l' := by omega
    rw [h3 e2, g3 e1]
  fro b o hb hh hm := by
    obtain ⟨h1, h2⟩ := h.fro b o hb hh hm
    exact k.fro b o hb h1 h2
  out := k.out.trans h.out
  sz := Nat.le_trans h.sz k.sz
  io := h.io.trans k.io

/-- The loop's block is written. -/
theorem put_loop {σ : Cf} {l : Nat} {r r' : Loop} (hO : ∀ b, σ.O b → b < σ.w.heap.size ∧ ¬ σ.M b) (hM : ¬ σ.M l) (h : σ.w.heap[l]? = some (.loop r)) :
    ∃ τ : Cf, τ = { σ with w := σ.w.putObj l (.loop r') } ∧ Oth σ τ ∧ Rd l σ τ ∧ τ.w.heap[l]? = some (.loop r') ∧ ∀ b o, b ≠ l → σ.w.heap[b]? = some o → τ.w.heap[b]? = some o := by
  have hlt : l < σ.w.heap.size := (Array.getElem?_eq_some_iff.1 h).1
  have hsz : (σ.w.putObj l (.loop r')).heap.size = σ.w.heap.size := World.putObj_size
  have ho : ∀ b, b ≠ l → (σ.w.putObj l (.loop r')).heap[b]? = σ.w.heap[b]? := fun b hb => World.putObj_heap_other hb
  refine ⟨_, rfl, ⟨rfl, rfl, rfl, rfl, rfl, fun b hb => ⟨by simp only [hsz]; exact (hO b hb).1, (hO b hb).2, fun hf => hf.2.1 hb⟩, by simp only [hsz]; exact Nat.le_refl _, fun b hb => ho b (by rintro rfl; exact hM hb), fun b o x _ hc => ?_, ⟨rfl, rfl⟩⟩,
    ⟨fun _ h => ⟨h, rfl⟩, fun _ _ l h => ⟨l, h, Nat.le_refl _, fun _ => rfl⟩, fun b o hb hh hm => ⟨(ho b hb).trans hh, hm⟩, rfl, by simp only [hsz]; exact Nat.le_refl _, ⟨rfl, rfl⟩⟩, World.putObj_heap_same hlt, fun b o hb hh => (ho b hb).trans hh⟩
  have hb : b ≠ l := by
    rintro rfl
    obtain ⟨_, _, _, hc'⟩ := not_cell hc
    rw [h] at hc'; simp at hc'
  simp only [World.cell?, ho b hb]
  exact hc

theorem Rd.ev {l : Nat} {σ σ' : Cf} {r : Loop} (h : Rd l σ σ') (hM : ¬ σ'.M l) (hl : σ.w.heap[l]? = some (.loop r)) : Ev σ σ' where
  box := h.box
  arr := h.arr
  fz b hb := by
    by_cases e : b = l
    · subst e; exact ⟨hM, by rw [h.out]; exact hb.2.1, Nat.lt_of_lt_of_le hb.2.2 h.sz⟩
    · obtain ⟨h1, h2⟩ := h.fro b _ e (Array.getElem?_eq_getElem hb.2.2) hb.1
      exact ⟨h2, by rw [h.out]; exact hb.2.1, Nat.lt_of_lt_of_le hb.2.2 h.sz⟩
  cell b o x hb hc := by
    have e : b ≠ l := by
      rintro rfl
      obtain ⟨_, _, _, hc'⟩ := not_cell hc
      rw [hl] at hc'; simp at hc'
    obtain ⟨h1, _⟩ := h.fro b _ e (Array.getElem?_eq_getElem hb.2.2) hb.1
    have h0 := Array.getElem?_eq_getElem hb.2.2
    simp only [World.cell?, h0] at hc
    simp only [World.cell?, h1]
    exact hc

theorem DOK.rd {l hb : Nat} {σ σ' : Cf} {r : Loop} {ds : List Deferred} (h : DOK hb σ ds) (k : Rd l σ σ') (hl : σ.w.heap[l]? = some (.loop r)) : DOK hb σ' ds where
  all d hd := by
    obtain ⟨r, h1, h2, h3, h4, h5⟩ := h.all d hd
    have e : r ≠ l := by rintro rfl; rw [hl] at h3; simp at h3
    obtain ⟨g1, g2⟩ := k.fro r _ e h3 h4
    exact ⟨r, h1, h2, g1, g2, by rw [k.out]; exact h5⟩
  nd := h.nd
  le := Nat.le_trans h.le k.sz
end Go.Proofs.Ytmmfbjmjhjmccaa.Am
