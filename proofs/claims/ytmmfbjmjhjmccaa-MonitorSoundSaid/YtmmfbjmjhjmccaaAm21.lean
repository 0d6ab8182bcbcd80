/-
  The abstract machine, part 21: an iterator's contract, out of its code.
-/
import Derived.Test.YtmmfbjmjhjmccaaAm20
namespace Go.Proofs.Ytmmfbjmjhjmccaa.Am
set_option linter.unusedSimpArgs false
set_option linter.unusedVariables false
open Go

/-- The function, bound to these values, yields this list. -/
def ItC (P : Program) (f : Nat) (fst cps : List AV) (xs : List (List AV)) : Prop :=
  ∀ (l hb : Nat) (J : Int → Cf → Prop) (σ : Cf) (vals : List Value), Rng P Fence.wide l hb xs J → J 0 σ → HInv σ [] → (∀ m, ¬ σ.al m) → RepL σ (fst ++ AV.clo (.yield l) [] [] :: cps) vals → hb ≤ σ.w.heap.size →
    CallsIn Fence.wide 0 P f vals.toArray σ.w fun e w' => ∃ v σ', e = .returned v ∧ σ'.w = w' ∧ (J xs.length σ' ∨ J (-1) σ')

theorem HInv.nil {σ : Cf} {hp : Hp} (h : HInv σ hp) : ∃ σ', σ' = { σ with ln := fun _ => none } ∧ HInv σ' [] :=
  ⟨_, rfl, fun _ => rfl, fun n j c h => by simp [hl] at h, fun n sz live rows d h => by simp [hl] at h, by
    rintro p q b (⟨_, _, j, c, h⟩ | ⟨_, ⟨_, _, _, h⟩, _⟩) _ <;> simp [hl] at h, h.lt, h.ou, h.dis⟩

theorem itc_fn {P : Program} {S : Tab} (hS : TabOK P S) {f : Nat} {fn : Func} {c : AC} {fst cps : List AV} {xs : List (List AV)} (nt : Nat) (hf : P.funcs[f]? = some fn) (hc : cFun P fn = some (c, [])) (hnt : fn.ntmps = nt) (hgs : nt ≤ gs)
    (hn : (fst ++ cps).length < nt)
    (h : ∀ (l hb : Nat) (J : Int → Cf → Prop) (evo : ∀ {k : Int} {σ σ' : Cf}, J k σ → Evo σ σ' → J k σ'), Rng P Fence.wide l hb xs J →
      awp (Ctx.it P Fence.wide S nt hb J hgs evo) c (itK xs.length) ⟨(gs, ghost 0) :: envOf 0 (fst ++ AV.clo (.yield l) [] [] :: cps), [], 0⟩) : ItC P f fst cps xs := by
  subst hnt
  intro l hb J σ vals hR hJ hI hal hx hsz
  unfold cFun at hc
  split at hc
  · rename_i b hbd
    split at hc
    · rename_i c' r' h1 h2
      simp at hc
      obtain ⟨rfl, rfl⟩ := hc
      have hw := h l hb J hR.evo hR b h1 σ { tmps := vals.toArray ++ Array.replicate (fn.ntmps - vals.toArray.size) undef, defers := [] } ?_
      · refine callsIn_of_wp_marks (n := 0) hf hbd trivial (wpIn_mono hw ?_)
        rintro e a' w' ⟨σ', s', e', rfl, _, h3, h4, h5⟩
        have key : (lk s'.env gs = ghost xs.length ∨ lk s'.env gs = ghost (-1)) → LeavesInM Fence.wide 0 P fn a'.tmps (fun e w' => ∃ v σ', e = .returned v ∧ σ'.w = w' ∧ (J xs.length σ' ∨ J (-1) σ')) a'.defers .returning σ'.w := by
          intro hk
          refine leaves_marks a'.defers σ' (fun b hb => ⟨h3.1.h.ou b hb, fun hM => h3.1.h.dis b hM hb⟩) h3.1.df fun ρ ko kO kb => ?_
          obtain ⟨ρ', hρ, hn'⟩ := (h3.1.h.oth ko).nil
          obtain ⟨us, k1, k2⟩ := exRVs_sound (P := P) (s := ⟨[], [], 0⟩) (rs := fn.results.toList) (rvs := []) (vc := True) (xs := []) (σ := ρ') (a := { a' with defers := [] }) (nt := fn.ntmps) (hb := hb)
            ⟨hn', fun t => by simp [lk, Rep], h3.1.sz, DOK.nil (by rw [hρ]; exact Nat.le_trans h3.1.df.le ko.sz)⟩ h2 rfl trivial
          rw [hρ] at k1
          refine ⟨_, results_run k1, _, ρ, rfl, rfl, ?_⟩
          have hj : ∀ k, J k σ' → J k ρ := fun k hk => hR.oth hk ko kO kb
          rcases hk with hk | hk
          · exact .inl (hj _ (h3.2.2 _ hk))
          · exact .inr (hj _ (h3.2.2 _ hk))
        cases e with
        | normal => simp [AE.of] at h4; subst h4; exact key h5
        | ret => simp [AE.of] at h4; subst h4; exact key h5
        | exit i => simp [AE.of] at h4; subst h4; exact h5.elim
        | goto l => simp [AE.of] at h4
        | panic c => simp [AE.of] at h4
        | outgrown => simp [AE.of] at h4
      · have hlen := repL_len hx
        refine ⟨⟨hI, fun t => ?_, by show _ = fn.ntmps; simp at hn hlen ⊢; omega, DOK.nil hsz⟩, fun m hm => (hal m hm).elim, ?_⟩
        · simp only [lk]
          by_cases ht : gs = t
          · rw [if_pos ht]
            subst ht
            have h1 : vals.length ≤ fn.ntmps := by simp at hn hlen; omega
            have : ¬ gs < vals.length + (fn.ntmps - vals.length) := by omega
            simp [Rep, Array.getD, this]
          · rw [if_neg ht, envOf_lk]
            split
            · rename_i ht
              simp only [Nat.zero_le, Nat.zero_add, true_and] at ht
              have hg : (fst ++ AV.clo (.yield l) [] [] :: cps)[t]? = some (fst ++ AV.clo (.yield l) [] [] :: cps)[t] := List.getElem?_eq_getElem ht
              obtain ⟨x, g1, g2⟩ := repL_get hx t _ hg
              have e1 : (fst ++ AV.clo (.yield l) [] [] :: cps).getD (t - 0) .un = (fst ++ AV.clo (.yield l) [] [] :: cps)[t] := by simp [List.getD_eq_getElem?_getD, hg]
              have hlt' : t < vals.length := by omega
              have e2 : (vals.toArray ++ Array.replicate (fn.ntmps - vals.toArray.size) undef).getD t undef = x := by
                rw [List.getElem?_eq_getElem hlt'] at g1
                simp at g1
                simp [Array.getD_eq_getD_getElem?, Array.getElem?_append_left, hlt', g1]
              rw [e1, e2]; exact g2
            · simp [Rep]
        · intro k hk
          simp only [lk, if_true] at hk
          have : (0 : Int) = k := by simpa using hk
          rw [← this]; exact hJ
    · simp at hc
  · simp at hc
end Go.Proofs.Ytmmfbjmjhjmccaa.Am
