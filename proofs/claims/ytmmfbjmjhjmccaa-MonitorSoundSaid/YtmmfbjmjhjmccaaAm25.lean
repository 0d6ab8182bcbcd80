/-
  The abstract machine, part 25: after one round.
-/
import Derived.Test.YtmmfbjmjhjmccaaAm24
namespace Go.Proofs.Ytmmfbjmjhjmccaa.Am
set_option linter.unusedSimpArgs false
set_option linter.unusedVariables false
open Go

section
variable {Γ : Ctx} {φ : RFix} {X : Type} {I : X → Hp × Nat} {Pre : X → Prop} {K : X → Nat} {Q : AE → St → Prop}

theorem rd_fin {so si s4 : Cf} {hp hp4 hpi : Hp} {cnt4 : Nat} {st st' : LoopState} {pe pe' : Option Code} {k' : Int} (h1 : Pair φ.O0 φ.l φ.D so si) (h2 : Way φ.ss so si) (h3 : Inv so φ.e hp φ.a Γ.nt Γ.hb) (hlM : ¬ so.M φ.l)
    (hl : so.w.heap[φ.l]? = some (.loop (φ.lp st pe))) (hD : so.w.heap[φ.D]? = some (.deferred (some []))) (hDM : ¬ so.M φ.D) (hi : HInv si hpi) (hls : φ.ss.w.heap.size ≤ φ.l)
    (hr : Rd φ.l so s4) (h4 : HInv s4 hp4) (hlM4 : ¬ s4.M φ.l) (hl4 : s4.w.heap[φ.l]? = some (.loop (φ.lp st' pe'))) (hal : ∀ m, s4.al m → m.2 ≤ cnt4)
    (h7 : (∃ x, Pre x ∧ (K x : Int) = k' ∧ st' = .ready ∧ pe' = none ∧ hp4 = (I x).1 ∧ cnt4 = (I x).2) ∨ (k' = -1 ∧ ∃ c e', st' = .done ∧ pe' = some c ∧ jumpOf c e' ∧ Q e' ⟨φ.e, hp4, cnt4⟩)) :
    ∃ si' : Cf, si'.w = s4.w ∧ Oth si si' ∧ (∀ (b : Nat) (o : Obj), ¬ si.O b → si.w.heap[b]? = some o → si'.w.heap[b]? = some o ∧ ¬ si'.O b) ∧ RJ Γ φ I Pre K Q k' si' := by
  have hw := h1.w
  have hsz : si.w.heap.size ≤ s4.w.heap.size := by rw [← hw]; exact hr.sz
  have hlO : si.O φ.l := (h1.oi _).2 (.inr (.inr (.inl rfl)))
  have hDO : si.O φ.D := (h1.oi _).2 (.inr (.inr (.inr rfl)))
  have hlD : φ.D ≠ φ.l := by intro e; rw [e, hl] at hD; simp at hD
  -- what is not the ranger's is as it was
  have keep : ∀ (b : Nat) (o : Obj), ¬ si.O b → si.w.heap[b]? = some o → s4.w.heap[b]? = some o ∧ ¬ s4.M b := fun b o hb ho => by
    rw [← hw] at ho
    exact hr.fro b o (by rintro rfl; exact hb hlO) ho fun hm => hb ((h1.oi b).2 (.inl hm))
  have new : ∀ b, ¬ si.O b → b < si.w.heap.size → ¬ (s4.M b ∨ φ.O0 b ∨ b = φ.l ∨ b = φ.D) := fun b hb hlt => by
    rintro (g | g)
    · exact (keep b _ hb (Array.getElem?_eq_getElem hlt)).2 g
    · exact hb ((h1.oi b).2 (.inr g))
  let si' : Cf := { si with w := s4.w, O := fun b => s4.M b ∨ φ.O0 b ∨ b = φ.l ∨ b = φ.D }
  have ob' : ∀ b, si'.O b → b < s4.w.heap.size := fun b hb => by
    rcases hb with g | g
    · exact h4.lt b g
    · exact Nat.lt_of_lt_of_le (h1.ob b ((h1.oi b).2 (.inr g))) hsz
  have di' : ∀ b, si.M b → ¬ si'.O b := fun b hb => new b (h1.di b hb) (hi.lt b hb)
  refine ⟨si', rfl, ⟨rfl, rfl, rfl, rfl, rfl, fun b hb => ⟨ob' b hb, fun hm => di' b hm hb, fun hf => new b hf.2.1 hf.2.2 hb⟩, hsz, fun b hb => ?_, fun b o x hf hc => ?_, by rw [← hw]; exact hr.io⟩, fun b o hb ho => ⟨(keep b o hb ho).1, new b hb (Array.getElem?_eq_some_iff.1 ho).1⟩,
    s4, hp4, cnt4, st', pe', ⟨rfl, fun b => Iff.rfl, fun b => ?_, di', ob'⟩, ⟨fun n hn => ?_, fun n hn l' hl' => ?_, fun b o ho hm => ?_, h2.ni, Nat.le_trans h2.sz hr.sz, h2.io.trans hr.io⟩,
    ⟨h4, h3.t.ev (hr.ev hlM4 hl), h3.sz, h3.df.rd hr hl⟩, hal, hlM4, hl4, (hr.fro _ _ hlD hD hDM).1, h7⟩
  · have h0 := Array.getElem?_eq_getElem (hi.lt b hb)
    rw [h0]; exact (keep b _ (h1.di b hb) h0).1
  · have h0 := Array.getElem?_eq_getElem hf.2.2
    have h0' := (keep b _ hf.2.1 h0).1
    simp only [World.cell?, h0] at hc
    simp only [World.cell?, si', h0']
    exact hc
  · rw [hr.out, h1.oo b]
    refine or_congr Iff.rfl ⟨fun h => ⟨h.1, Nat.lt_of_lt_of_le h.2 hsz⟩, fun h => ⟨h.1, hi.lt b h.1⟩⟩
  · exact ⟨(hr.box n (h2.box n hn).1).1, ((hr.box n (h2.box n hn).1).2).trans (h2.box n hn).2⟩
  · obtain ⟨l1, g1, g2, g3⟩ := hr.arr n (h2.box n hn).1 l' hl'
    obtain ⟨m, q1, q2, q3⟩ := h2.arr n hn l1 g1
    refine ⟨m, q1, Nat.le_trans q2 g2, fun e => ?_⟩
    have e1 : m = l1 := by omega
    have e2 : l1 = l' := by omega
    rw [g3 e2, q3 e1]
  · obtain ⟨g1, g2⟩ := h2.old b o ho hm
    have hlt := (Array.getElem?_eq_some_iff.1 ho).1
    exact hr.fro b o (by omega) g1 g2
end
end Go.Proofs.Ytmmfbjmjhjmccaa.Am
