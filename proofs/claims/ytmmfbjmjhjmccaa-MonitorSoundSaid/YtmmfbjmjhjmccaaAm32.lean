/-
  The abstract machine, part 32: a law's statement out of the contract of its function.
-/
import Derived.Test.YtmmfbjmjhjmccaaAm31
namespace Go.Proofs.Ytmmfbjmjhjmccaa.Am
set_option linter.unusedSimpArgs false
set_option linter.unusedVariables false
open Go Go.RowKit Go.ChangeShapes

def isAg (P : Program) (t : TypeId) : Bool :=
  match P.underlying t with
  | some (.struct _) | some (.array _ _) => true
  | _ => false
def argShape (P : Program) (t : TypeId) : Option (Bool × List Cs) := (shapeOf P 6 t).map fun css => (isAg P t, css)
def ArgOK (sh : Bool × List Cs) (a : AV) : Prop :=
  match sh.1 with
  | true => ∃ as, a = .agg as ∧ CellsOK sh.2 as
  | false => CellsOK sh.2 [a]
def ArgsOK : List (Bool × List Cs) → List AV → Prop
  | [], as => as = []
  | sh :: shs, as => ∃ a as', as = a :: as' ∧ ArgOK sh a ∧ ArgsOK shs as'
def argShapes (P : Program) : List TypeId → Option (List (Bool × List Cs))
  | [] => some []
  | t :: ts => match argShape P t, argShapes P ts with
    | some x, some xs => some (x :: xs)
    | _, _ => none

theorem ArgOK.pure {sh : Bool × List Cs} {a : AV} (h : ArgOK sh a) : pureA a = true := by
  unfold ArgOK at h
  split at h
  · obtain ⟨as, rfl, h⟩ := h
    simpa [pureA] using h.pure
  · have := h.pure
    simpa [pureL] using this
theorem ArgsOK.pure : ∀ {shs : List (Bool × List Cs)} {as : List AV}, ArgsOK shs as → pureL as = true
  | [], as, h => by simp only [ArgsOK] at h; subst h; rfl
  | sh :: shs, as, h => by
    simp only [ArgsOK] at h
    obtain ⟨a, as', rfl, h1, h2⟩ := h
    simp [pureL, h1.pure, h2.pure]

section
variable {H : Type} {enc : TypeId × Value → H} {P : Program} {W : World} {σ : Cf}

theorem arg_rep_of (hw : σ.w = W) (hM : ∀ b, ¬ σ.M b) (hO : ∀ b, ¬ σ.O b) {base : Nat} {t : TypeId} {v : Value} {d : DataW H} {p : List MemPlace} {sh : Bool × List Cs} (hsh : argShape P t = some sh)
    (h : DataW.Trod enc P W 0 (fun _ => true) true t v d p) (hok : Value.okWide P W .any base t v) : ∃ a, Rep σ a v ∧ ArgOK sh a := by
  obtain ⟨css, hcss, rfl⟩ := Option.map_eq_some_iff.1 hsh
  obtain ⟨fuel, hf⟩ := h
  obtain ⟨as, k1, k2, k3, k4⟩ := trod_rep hw hM hO 6 t css fuel _ _ hcss hf
  unfold Value.okWide at hok
  cases hag : isAg P t with
  | true =>
    unfold isAg at hag
    have hv : ∃ cs, v = .agg cs := by
      split at hag
      · rename_i hu; rw [hu] at hok; obtain ⟨cs, rfl, _⟩ := hok; exact ⟨cs, rfl⟩
      · rename_i hu; rw [hu] at hok; obtain ⟨cs, rfl, _⟩ := hok; exact ⟨cs, rfl⟩
      · simp at hag
    obtain ⟨cs, rfl⟩ := hv
    refine ⟨.agg as, ?_, ?_⟩
    · simp only [Rep]
      exact ⟨cs.toList, rfl, by simpa [Value.cells] using k3, by simpa [Value.cells] using k1⟩
    · simp only [ArgOK]
      exact ⟨as, rfl, k2⟩
  | false =>
    have hone : v.cells = #[v] ∧ css.length = 1 := by
      simp only [shapeOf] at hcss
      split at hcss
      · rename_i hu
        rw [hu] at hok
        simp at hcss; subst hcss
        cases v <;> simp [Cell.okWide, Cell.ok, hu, Value.cells] at hok ⊢
      · rename_i hu
        rw [hu] at hok
        simp at hcss; subst hcss
        cases v <;> simp [Cell.okWide, Cell.ok, hu, Value.cells] at hok ⊢
      · rename_i e hu
        rw [hu] at hok
        split at hcss
        · split at hcss
          · simp at hcss; subst hcss
            cases v <;> simp [Cell.okWide, Cell.ok, hu, Value.cells] at hok ⊢
          · simp at hcss
        · simp at hcss
      · rename_i hu; simp [isAg, hu] at hag
      · rename_i hu; simp [isAg, hu] at hag
      · simp at hcss
    have hl := k2.len
    rw [hone.2] at hl
    rw [hone.1] at k1
    cases as with
    | nil => simp at hl
    | cons a as =>
      cases as with
      | cons _ _ => simp at hl
      | nil =>
        simp [RepL] at k1
        exact ⟨a, k1, by simpa [ArgOK] using k2⟩

theorem args_rep_of (hw : σ.w = W) (hM : ∀ b, ¬ σ.M b) (hO : ∀ b, ¬ σ.O b) {base : Nat} : ∀ {ts : List TypeId} {vs : List Value} {ds : List (DataW H)} {p : List MemPlace} {shs : List (Bool × List Cs)}, argShapes P ts = some shs →
    DataW.TrodAll enc P W 0 (fun _ => true) true ts vs ds p → (∀ (j : Nat) t v, ts[j]? = some t → vs[j]? = some v → Value.okWide P W .any base t v) → ∃ as, RepL σ as vs ∧ ArgsOK shs as
  | [], [], [], p, shs, hs, h, _ => by
    simp [argShapes] at hs; subst hs
    exact ⟨[], by simp [RepL], by simp [ArgsOK]⟩
  | t :: ts, v :: vs, d :: ds, p, shs, hs, h, hok => by
    obtain ⟨p1, q1, h1, h2, _⟩ := h
    simp only [argShapes] at hs
    split at hs
    · rename_i x xs hx hxs
      simp at hs; subst hs
      obtain ⟨a, a1, a2⟩ := arg_rep_of hw hM hO hx h1 (hok 0 t v rfl rfl)
      obtain ⟨as, b1, b2⟩ := args_rep_of hw hM hO hxs h2 fun j t v ht hv => hok (j + 1) t v (by simpa using ht) (by simpa using hv)
      exact ⟨a :: as, by simp only [RepL]; exact ⟨v, vs, rfl, a1, b1⟩, by simp only [ArgsOK]; exact ⟨a, as, rfl, a2, b2⟩⟩
    · simp at hs
  | [], _ :: _, _, _, _, _, h, _ => h.elim
  | [], [], _ :: _, _, _, _, h, _ => h.elim
  | _ :: _, [], _, _, _, _, h, _ => h.elim
  | _ :: _, _ :: _, [], _, _, _, h, _ => h.elim

theorem trodAll_stays (hl : laidOutB P = true) {W W' : World} {sp : Nat → Bool} : ∀ {ts : List TypeId} {vs : List Value} {ds : List (DataW H)} {p : List MemPlace}, ts.all (fun t => P.readableRec t && decide (t < P.types.size)) = true →
    DataW.TrodAll enc P W 0 (fun _ => true) true ts vs ds p → (∀ x ∈ p, W.sameAt W' x) → (∀ x ∈ p, sp x.block = true) → DataW.TrodAll enc P W' 0 sp true ts vs ds p
  | [], [], [], p, _, h, _, _ => h
  | t :: ts, v :: vs, d :: ds, p, hr, h, hs, hb => by
    obtain ⟨p1, q1, h1, h2, rfl⟩ := h
    simp only [List.all_cons, Bool.and_eq_true, decide_eq_true_eq] at hr
    exact ⟨p1, q1, WideElems.Trod_stays hl hr.1.1 hr.1.2 h1 (fun x hx => hs x (by simp [hx])) (fun x hx => hb x (by simp [hx])),
      trodAll_stays hl hr.2 h2 (fun x hx => hs x (by simp [hx])) (fun x hx => hb x (by simp [hx])), rfl⟩
  | [], _ :: _, _, _, _, h, _, _ => h.elim
  | [], [], _ :: _, _, _, h, _, _ => h.elim
  | _ :: _, [], _, _, _, h, _, _ => h.elim
  | _ :: _, _ :: _, [], _, _, h, _, _ => h.elim

theorem post_law {fn : Func} {s : ChangeSpec} {apart fresh handsOn again : Bool} {W W' : World} {args : Array Value} {ds gs : List (DataW H)} {before : List MemPlace} {tb : TypeId}
    (hW : DataW.Whole enc P fn.params.toList s.vars apart W args.toList ds gs before) (hvars : s.vars = []) (hs : s.fn H ds = { results := [.lit (.bool true)], args := ds }) (hres : fn.resultTypes = #[tb]) (hb : P.underlying tb = some .bool)
    (hl : laidOutB P = true) (hr : fn.params.toList.all (fun t => P.readableRec t && decide (t < P.types.size)) = true) (hk : ∀ (b : Nat) (o : Obj), W.heap[b]? = some o → W'.heap[b]? = some o) (ho : SameO W W') :
    s.post enc P fn apart fresh handsOn again W args (.bool true) W' := by
  let W2 : World := { W' with tape := W.tape }
  have hsz : W.heap.size ≤ W'.heap.size := size_le hk
  have hbel : Below W.heap.size W W2 := ⟨ho.1, rfl, ho.2, hsz, fun k hk' => by
    have := Array.getElem?_eq_getElem hk'
    show W'.heap[k]? = _
    rw [this]; exact hk k _ this⟩
  have hW' := hW
  obtain ⟨p, q, hA, hV, rfl, hz, hn⟩ := hW'
  rw [hvars] at hV
  obtain ⟨rfl, rfl⟩ := trodVars_none hV
  simp only [List.append_nil] at *
  have hlt := hA.lt
  have hsame : ∀ x ∈ p, W.sameAt W' x := fun x hx => hbel.same (hlt x hx)
  have hargs : ∀ sp : Nat → Bool, (∀ x ∈ p, sp x.block = true) → DataW.TrodAll enc P W' 0 sp true fn.params.toList args.toList ds p := fun sp hsp => trodAll_stays hl hr hA hsame hsp
  have hvars' : ∀ sp : Nat → Bool, DataW.TrodVars enc P W' sp s.vars [] [] := fun sp => by rw [hvars]; rfl
  have hresl : (Value.bool true).resultList fn.resultTypes.size = [.bool true] := by rw [hres]; rfl
  have hres' : ∀ (b : Nat) (sp : Nat → Bool) (hd : Bool), DataW.TrodAll enc P W' b sp hd fn.resultTypes.toList ((Value.bool true).resultList fn.resultTypes.size) [.lit (.bool true)] [] := fun b sp hd => by
    rw [hresl, hres]
    exact trodAll_mk1 (shut_bool hb _)
  have hold : ∀ x ∈ p, (fun b => decide (b < W.heap.size)) x.block = true := fun x hx => by simpa using hlt x hx
  have hfrz : ∀ b off, MemPlace.cell b off ∈ p → W'.frozen? ⟨b, off, none⟩ = false := fun b off hx => by
    have h1 := hz b off (by simpa using hx)
    have h2 : W2.frozen? ⟨b, off, none⟩ = W.frozen? ⟨b, off, none⟩ := hbel.frozen (hlt _ hx)
    exact h2.trans h1
  refine ⟨ds, [], p, [], p, [], hW, ?_, ?_, ?_, ?_, fun _ => ?_⟩
  · simp only [List.append_nil, hs]; exact hres' _ _ _
  · simp only [List.append_nil, hs]; exact hargs _ hold
  · simp only [List.append_nil, hs]; exact hvars' _
  · have h3 := hbel.frame (fun x => x ∈ p ∧ (x ∈ ([] : List MemPlace) ∨ x ∈ p ∨ x ∈ ([] : List MemPlace)))
    unfold World.keptBut at h3 ⊢
    exact h3
  · refine ⟨ok_one hres rfl (okWide_bool_mk hb _), [.lit (.bool true)] ++ ds, [], p, ⟨[] ++ p, [], ?_, hvars' _, by simp, ?_, ?_⟩, ?_⟩
    · exact trodAll_append (hargs _ (fun _ _ => rfl)) (hres' 0 (fun _ => true) true)
    · intro b off hx; exact hfrz b off hx
    · intro ha; simpa using hn ha
    · intro x hx _; exact hx
end
end Go.Proofs.Ytmmfbjmjhjmccaa.Am
