/-
  The abstract machine, part 23: what the one who ranges over a function knows while the function runs.
-/
import Derived.Test.YtmmfbjmjhjmccaaAm22
namespace Go.Proofs.Ytmmfbjmjhjmccaa.Am
set_option linter.unusedSimpArgs false
set_option linter.unusedVariables false
open Go

def jumpOf (c : Code) (e : AE) : Prop := (c = .ret ∧ e = .r) ∨ ∃ id, c = .exit id ∧ e = .x id

/-- What is fixed throughout a range over a function. -/
structure RFix where
  O0 : Nat → Prop
  l : Nat
  D : Nat
  ss : Cf
  e : Env
  a : Act
  lp : LoopState → Option Code → Loop

def RJ (Γ : Ctx) (φ : RFix) {X : Type} (I : X → Hp × Nat) (Pre : X → Prop) (K : X → Nat) (Q : AE → St → Prop) (k : Int) (si : Cf) : Prop :=
  ∃ so hp cnt st pe, Pair φ.O0 φ.l φ.D so si ∧ Way φ.ss so si ∧ Inv so φ.e hp φ.a Γ.nt Γ.hb ∧ (∀ m, so.al m → m.2 ≤ cnt) ∧ ¬ so.M φ.l ∧ so.w.heap[φ.l]? = some (.loop (φ.lp st pe)) ∧ so.w.heap[φ.D]? = some (.deferred (some [])) ∧
    ((∃ x, Pre x ∧ (K x : Int) = k ∧ st = .ready ∧ pe = none ∧ hp = (I x).1 ∧ cnt = (I x).2) ∨ (k = -1 ∧ ∃ c e', st = .done ∧ pe = some c ∧ jumpOf c e' ∧ Q e' ⟨φ.e, hp, cnt⟩))

section
variable {Γ : Ctx} {φ : RFix} {X : Type} {I : X → Hp × Nat} {Pre : X → Prop} {K : X → Nat} {Q : AE → St → Prop} {k : Int} {si si' : Cf}

theorem RJ.step (h : RJ Γ φ I Pre K Q k si) (hdf : ∀ d ∈ φ.a.defers, ∃ r, d = { target := .collected r, args := #[] } ∧ (r < φ.ss.w.heap.size ∨ r = φ.D))
    (hO : si'.O = si.O) (hsz : si.w.heap.size ≤ si'.w.heap.size) (hio : SameO si.w si'.w) (hM : ∀ b, b < si.w.heap.size → ¬ si.M b → ¬ si'.M b)
    (hP : ∀ (b : Nat) (o : Obj), (b < φ.ss.w.heap.size ∨ si.O b) → ¬ si.M b → si.w.heap[b]? = some o → si'.w.heap[b]? = some o)
    (hF : ∀ b o x, Fz si b → si.w.cell? ⟨b, o, none⟩ = some x → si'.w.cell? ⟨b, o, none⟩ = some x) : RJ Γ φ I Pre K Q k si' := by
  obtain ⟨so, hp, cnt, st, pe, h1, h2, h3, h4, h8, h5, h6, h7⟩ := h
  have hw := h1.w
  have hl : ∀ cs T f, si.w.heap[φ.l]? ≠ some (.cells cs T f) := fun cs T f => by rw [← hw, h5]; simp
  have hD : ∀ cs T f, si.w.heap[φ.D]? ≠ some (.cells cs T f) := fun cs T f => by rw [← hw, h6]; simp
  obtain ⟨so', g1, g2, g3, g4, g5⟩ := pair_step h1 h2 h3.h.dis hO hsz hio hM hP hF hl hD
  have hlO : si.O φ.l := (h1.oi _).2 (.inr (.inr (.inl rfl)))
  have hDO : si.O φ.D := (h1.oi _).2 (.inr (.inr (.inr rfl)))
  have keep : ∀ b o, si.O b → so.w.heap[b]? = some o → so'.w.heap[b]? = some o := fun b o hb ho => by
    rw [g1.w]
    rw [hw] at ho
    exact hP b o (.inr hb) (fun hm => h1.di b hm hb) ho
  refine ⟨so', hp, cnt, st, pe, g1, g2, ⟨h3.h.oth g3, h3.t.ev g3.ev, h3.sz, ⟨fun d hd => ?_, h3.df.nd, Nat.le_trans h3.df.le g3.sz⟩⟩, fun m hm => h4 m (by rw [g3.al] at hm; exact hm), by rw [g4]; exact h8, keep _ _ hlO h5, keep _ _ hDO h6, h7⟩
  obtain ⟨r, r1, r2, r3, r4, r5⟩ := h3.df.all d hd
  obtain ⟨r', q1, q2⟩ := hdf d hd
  have e : r = r' := by rw [r1] at q1; simpa using q1
  subst e
  have hlt := (Array.getElem?_eq_some_iff.1 r3).1
  refine ⟨r, r1, r2, ?_, by rw [g4]; exact r4, g5 r hlt r5⟩
  rcases q2 with q2 | rfl
  · rw [g1.w]
    rw [hw] at r3
    exact hP r _ (.inl q2) (h2.ni r q2) r3
  · exact keep _ _ hDO r3

theorem RJ.evo (hdf : ∀ d ∈ φ.a.defers, ∃ r, d = { target := .collected r, args := #[] } ∧ (r < φ.ss.w.heap.size ∨ r = φ.D)) (h : RJ Γ φ I Pre K Q k si) (e : Evo si si') : RJ Γ φ I Pre K Q k si' :=
  h.step hdf e.out e.sz e.io (fun b hb hm => (e.fro b _ (Array.getElem?_eq_getElem hb) hm).2) (fun b o _ hm hb => (e.fro b o hb hm).1) fun _ _ _ hf hc => e.cell hf.1 hc

theorem RJ.oth {hb : Nat} (hhb : φ.ss.w.heap.size ≤ hb) (hdf : ∀ d ∈ φ.a.defers, ∃ r, d = { target := .collected r, args := #[] } ∧ (r < φ.ss.w.heap.size ∨ r = φ.D)) (h : RJ Γ φ I Pre K Q k si) (o : Oth si si') (hO : si'.O = si.O)
    (hP : ∀ (b : Nat) (o : Obj), b < hb ∨ si.O b → si.w.heap[b]? = some o → si'.w.heap[b]? = some o) : RJ Γ φ I Pre K Q k si' :=
  h.step hdf hO o.sz o.io (fun b _ hm => by rw [o.M]; exact hm) (fun b ob hb _ hc => hP b ob (hb.imp (fun h => Nat.lt_of_lt_of_le h hhb) id) hc) o.fro
end
end Go.Proofs.Ytmmfbjmjhjmccaa.Am
