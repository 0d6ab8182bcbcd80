/-
  The abstract machine, part 33: the step of a law's row.
-/
import Derived.Test.YtmmfbjmjhjmccaaAm32
namespace Go.Proofs.Ytmmfbjmjhjmccaa.Am
set_option linter.unusedSimpArgs false
set_option linter.unusedVariables false
open Go Go.RowKit Go.ChangeShapes

section
variable {H : Type} {enc : TypeId × Value → H} {P : Program}

theorem trodAll_len {W : World} {base : Nat} {sp : Nat → Bool} {hd : Bool} : ∀ {ts : List TypeId} {vs : List Value} {ds : List (DataW H)} {p : List MemPlace}, DataW.TrodAll enc P W base sp hd ts vs ds p → ds.length = ts.length
  | [], [], [], _, _ => rfl
  | t :: ts, v :: vs, d :: ds, _, h => by
    obtain ⟨_, _, _, h2, _⟩ := h
    simp [trodAll_len h2]
  | [], _ :: _, _, _, h => h.elim
  | [], [], _ :: _, _, h => h.elim
  | _ :: _, [], _, _, h => h.elim
  | _ :: _, _ :: _, [], _, h => h.elim

theorem law_contract {f : Nat} {fn : Func} {s : ChangeSpec} {shs : List (Bool × List Cs)} {tb : TypeId} {apart fresh handsOn again : Bool} (hpc : ∀ as, ArgsOK shs as → PCall P f as (.b true)) (hsh : argShapes P fn.params.toList = some shs)
    (hvars : s.vars = []) (hs : ∀ ds : List (DataW H), ds.length = fn.params.toList.length → s.fn H ds = { results := [.lit (.bool true)], args := ds }) (hres : fn.resultTypes = #[tb]) (hb : P.underlying tb = some .bool)
    (hl : laidOutB P = true) (hr : fn.params.toList.all (fun t => P.readableRec t && decide (t < P.types.size)) = true)
    (W : World) (base : Nat) (args : Array Value) (ds gs : List (DataW H)) (before : List MemPlace) (hval : ∀ (j : Nat) t v, fn.params[j]? = some t → args[j]? = some v → Value.okWide P W .any base t v)
    (hW : DataW.Whole enc P fn.params.toList s.vars apart W args.toList ds gs before) :
    Calls P f args W fun e W' => ∃ v, e = .returned v ∧ s.post enc P fn apart fresh handsOn again W args v W' := by
  let σ : Cf := { rb := fun _ => 0, ra := fun _ => (none, 0), M := fun _ => False, O := fun _ => False, ln := fun _ => none, al := fun _ => False, w := W }
  have hA := hW
  obtain ⟨p, q, hA, _⟩ := hA
  obtain ⟨as, h1, h2⟩ := args_rep_of (σ := σ) (hw := rfl) (fun _ h => h) (fun _ h => h) hsh hA (fun j t v ht hv => hval j t v (by simpa using ht) (by simpa using hv))
  have := hpc as h2 σ args.toList (fun b hb => hb.elim False.elim False.elim) h2.pure h1
  rw [Array.toArray_toList] at this
  refine this.mono ?_
  rintro e W' ⟨v, rfl, g1, g2, g3, g4⟩
  simp only [Rep] at g4
  subst g4
  exact ⟨_, rfl, post_law hW hvars (hs ds (trodAll_len hA)) hres hb hl hr g1 g2⟩
end
end Go.Proofs.Ytmmfbjmjhjmccaa.Am
