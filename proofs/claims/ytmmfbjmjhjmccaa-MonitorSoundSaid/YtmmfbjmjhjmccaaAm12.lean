/-
  The abstract machine, part 12: every operation does what the machine says; a region in the order of its text.
-/
import Derived.Test.YtmmfbjmjhjmccaaAm11
namespace Go.Proofs.Ytmmfbjmjhjmccaa.Am
set_option linter.unusedSimpArgs false
set_option linter.unusedVariables false
open Go
section
variable {P : Program} {o : Oper} {a : Act} {σ : Cf} {nm : Nm} {hp : Hp} {r : AV} {vc : Prop} {ws : Hp}

theorem exK_bad {S : Tab} {env : Env} {g : Bool} {k : AK} (hk : k = .bad) (hex : exK S env hp nm g k = some (vc, r, ws)) : False := by
  subst hk; simp [exK] at hex

theorem call_case {S : Tab} (hS : TabOK P S) (h : HInv σ hp) {env : Env} (ht : TInv σ env a) (hnm : ¬ σ.al nm) {g : Bool} (hg : g = true) {c : Call} (ho : o.op = .call c)
    (hex : exK S env hp nm g (cCall P c) = some (vc, r, ws)) (hvc : vc) : Step P o a σ nm (ws ++ hp) r := by
  have bad : exK S env hp nm g .bad = some (vc, r, ws) → Step P o a σ nm (ws ++ hp) r := fun e => (exK_bad rfl e).elim
  have A := arg_rep hg ht
  have AL := args_rep hg ht c.args.toList
  unfold cCall at hex
  cases hcal : c.callee with
  | value f =>
    rw [hcal] at hex
    cases f with
    | func f =>
      simp only [exK] at hex
      exact step_call hS h ho hcal AL hex hvc
    | tmp t =>
      simp only [exK] at hex
      exact step_cv hS h ho hcal (A _) AL hex hvc
    | const v =>
      simp only [exK] at hex
      exact step_cv hS h ho hcal (A _) AL hex hvc
    | global g' =>
      simp only [exK] at hex
      exact step_cv hS h ho hcal (A _) AL hex hvc
  | invoke r' m => rw [hcal] at hex; exact bad hex
  | builtin b =>
    rw [hcal] at hex
    cases b
    case len =>
      simp only at hex
      split at hex
      · rename_i x t hx htt
        split at hex
        · rename_i e he
          simp only [exK] at hex
          exact step_len h ho hcal hx htt he (A x) hex hvc
        · exact bad hex
      · exact bad hex
    case append =>
      simp only at hex
      split at hex
      · rename_i s x t t' hx htt
        split at hex
        · rename_i hteq
          subst hteq
          split at hex
          · rename_i e he
            split at hex
            · rename_i i zs hi hz
              split at hex
              · rename_i h0
                simp only [exK] at hex
                exact step_app h hnm ho hcal hx htt he hi hz h0 (A s) (A x) hex hvc
              · exact bad hex
            · exact bad hex
          · exact bad hex
        · exact bad hex
      · exact bad hex
    case max =>
      simp only [exK] at hex
      exact step_mm (isMax := true) h ho hcal AL hex
    case min =>
      simp only [exK] at hex
      exact step_mm (isMax := false) h ho hcal AL hex
    all_goals exact bad hex

theorem bin_case {S : Tab} (h : HInv σ hp) {env : Env} (ht : TInv σ env a) {g : Bool} (hg : g = true) {op : BinOp} {t yt : TypeId} {x y : Operand} (ho : o.op = .binOp op t x y yt)
    (hex : exK S env hp nm g (cBin P op t (opd x) (opd y)) = some (vc, r, ws)) (hvc : vc) : Step P o a σ nm (ws ++ hp) r := by
  have A := arg_rep hg ht
  have key : cBin P op t (opd x) (opd y) = .bad ∨ cBin P op t (opd x) (opd y) = .bin op .int (opd x) (opd y) ∨ cBin P op t (opd x) (opd y) = .bin op .bool (opd x) (opd y) ∧ P.underlying t = some .bool := by
    unfold cBin
    split
    · exact .inl rfl
    · exact .inl rfl
    · split
      · exact .inr (.inl rfl)
      · rename_i hu; exact .inr (.inr ⟨rfl, hu⟩)
      · exact .inl rfl
  rcases key with k | k | ⟨k, ku⟩
  · rw [k] at hex; exact (exK_bad rfl hex).elim
  · have hop : cBin P op t (opd x) (opd y) = .bin op .int (opd x) (opd y) ∨ cBin P op t (opd x) (opd y) = .bin op .bool (opd x) (opd y) ∧ P.underlying t = some .bool := .inl k
    rw [k] at hex
    simp only [exK] at hex
    exact step_bin h ho hop k (A x) (A y) hex hvc
  · have hop : cBin P op t (opd x) (opd y) = .bin op .int (opd x) (opd y) ∨ cBin P op t (opd x) (opd y) = .bin op .bool (opd x) (opd y) ∧ P.underlying t = some .bool := .inr ⟨k, ku⟩
    rw [k] at hex
    simp only [exK] at hex
    exact step_bin h ho hop k (A x) (A y) hex hvc

theorem exK_sound {S : Tab} (hS : TabOK P S) (h : HInv σ hp) {env : Env} (ht : TInv σ env a) (hnm : ¬ σ.al nm) {g : Bool} (hg : g = true) 
    (hex : exK S env hp nm g (cK P o.op) = some (vc, r, ws)) (hvc : vc) : Step P o a σ nm (ws ++ hp) r := by
  have bad : exK S env hp nm g .bad = some (vc, r, ws) → Step P o a σ nm (ws ++ hp) r := fun e => (exK_bad rfl e).elim
  have A := arg_rep hg ht
  cases ho : o.op with
  | move x =>
    simp only [ho, cK, exK, Option.some.injEq, Prod.mk.injEq] at hex
    obtain ⟨_, rfl, rfl⟩ := hex
    exact step_mv h (.inl ho) (A x)
  | assign x =>
    simp only [ho, cK, exK, Option.some.injEq, Prod.mk.injEq] at hex
    obtain ⟨_, rfl, rfl⟩ := hex
    exact step_mv h (.inr ho) (A x)
  | pick c x y =>
    simp only [ho, cK, exK] at hex
    exact step_pick h hg ho (opd_rep ht c) (opd_rep ht x) (opd_rep ht y) hex
  | alloc t =>
    simp only [ho, cK] at hex
    split at hex
    · rename_i zs hz
      simp only [exK, Option.some.injEq, Prod.mk.injEq] at hex
      obtain ⟨_, rfl, rfl⟩ := hex
      exact step_alloc h hnm ho hz
    · exact bad hex
  | box t x =>
    simp only [ho, cK, exK, exBox] at hex
    split at hex
    · rename_i cs hcs
      split at hex
      · simp only [Option.some.injEq, Prod.mk.injEq] at hex
        obtain ⟨_, rfl, rfl⟩ := hex
        exact step_box h hnm ho (A x) hcs
      · simp at hex
    · simp at hex
  | build t parts =>
    simp only [ho, cK, cBuild] at hex
    split at hex
    · rename_i zs pf hz hpf
      split at hex
      · rename_i ps hps
        simp only [exK] at hex
        exact step_build h (f := fun x => ung g (opv env x)) ho hz hpf hps (fun x => A x) hex
      · exact bad hex
    · exact bad hex
  | buildSlice t len parts =>
    simp only [ho, cK] at hex
    split at hex
    · rename_i e he
      split at hex
      · rename_i i zs hi hz
        split at hex
        · rename_i h0
          simp only [exK] at hex
          exact step_bsl h hnm (f := fun x => ung g (opv env x)) ho he hi hz h0 (fun x => A x) hex hvc
        · exact bad hex
      · exact bad hex
    · exact bad hex
  | load t x =>
    simp only [ho, cK] at hex
    split at hex
    · rename_i d i hd hi
      simp only [exK] at hex
      exact step_ld h ho hd hi (A x) hex hvc
    · exact bad hex
  | store t x y =>
    simp only [ho, cK] at hex
    split at hex
    · rename_i i hi
      simp only [exK] at hex
      exact step_st h ho hi (A x) (A y) hex hvc (fun _ h => .inl h)
    · exact bad hex
  | fieldAddr s x f =>
    simp only [ho, cK] at hex
    split at hex
    · rename_i fs hfs
      split at hex
      · rename_i fd hfd
        split at hex
        · rename_i i hi
          split at hex
          · exact bad hex
          · rename_i h0
            simp only [exK] at hex
            exact step_fa h ho hfs hfd hi h0 (A x) hex
        · exact bad hex
      · exact bad hex
    · exact bad hex
  | field t x f =>
    simp only [ho, cK] at hex
    split at hex
    · rename_i fs hfs
      split at hex
      · rename_i fd hfd
        split at hex
        · rename_i d i hd hi
          simp only [exK] at hex
          exact step_fld h ho hfs hfd hd hi (A x) hex
        · exact bad hex
      · exact bad hex
    · exact bad hex
  | indexAddr t x ix =>
    simp only [ho, cK] at hex
    split at hex
    · rename_i e he
      split at hex
      · rename_i i hi
        simp only [exK] at hex
        exact step_ia h ho he hi (A x) (A ix) hex hvc
      · exact bad hex
    · rename_i n e he
      split at hex
      · rename_i i hi
        simp only [exK] at hex
        exact step_iaA h ho he hi (A x) (A ix) hex hvc
      · exact bad hex
    · exact bad hex
  | index t x ix =>
    simp only [ho, cK] at hex
    split at hex
    · rename_i n e he
      split at hex
      · rename_i d i hd hi
        simp only [exK] at hex
        exact step_idxA h ho he hd hi (A x) (A ix) hex hvc
      · exact bad hex
    · exact bad hex
  | binOp op t x y yt =>
    simp only [ho, cK] at hex
    exact bin_case h ht hg ho hex hvc
  | unOp op t x =>
    simp only [ho, cK, exK] at hex
    exact step_un h ho (A x) hex hvc
  | extract x i =>
    simp only [ho, cK, exK] at hex
    exact step_ext h ho (A x) hex
  | call c =>
    simp only [ho, cK] at hex
    exact call_case hS h ht hnm hg ho hex hvc
  | makeFunc fn f c =>
    simp only [ho, cK, exK, Option.some.injEq, Prod.mk.injEq] at hex
    obtain ⟨_, rfl, rfl⟩ := hex
    exact step_mkf h ho (args_rep hg ht _) (args_rep hg ht _)
  | slice t x lo hi mx =>
    simp only [ho, cK] at hex
    split at hex
    · rename_i e he
      split at hex
      · rename_i i hi'
        simp only [exK] at hex
        refine step_slc (f := fun y => ung g (opv env (opd y))) h ho he hi' (A x) (fun y => A y) ?_ hvc
        rw [← hex]
        cases lo <;> cases hi <;> cases mx <;> rfl
      · exact bad hex
    · exact bad hex
  | nilCheck x =>
    simp only [ho, cK, exK] at hex
    exact step_nil h ho (A x) hex
  | convert src dst x =>
    simp only [ho, cK] at hex
    split at hex
    · rename_i k1 k2 hs hd
      simp only [exK] at hex
      exact step_cnv h ho hs hd (A x) hex hvc
    · exact bad hex
  | _ => simp only [ho, cK] at hex; exact bad hex

/-- The guard of an operation, by the slot in which its bool lies. -/
def cG (ops : Array Oper) (g : Option (Nat × Bool)) : Option (Option (Nat × Bool)) :=
  match g with
  | none => some none
  | some (j, want) => match (ops[j]?).bind (·.dst) with
    | some d => some (some (d, want))
    | none => none

def dOK (nt : Nat) : Option Nat → Bool
  | some d => decide (d < nt)
  | none => true

def cOp (P : Program) (nt : Nat) (ops : Array Oper) (o : Oper) : Option AOp :=
  match cG ops o.guard with
  | none => none
  | some g => match o.op with
    | .defer _ => none
    | op => if dOK nt o.dst = true then some ⟨o.dst, g, cK P op⟩ else none

theorem TInv.mono {σ σ' : Cf} {env : Env} {a : Act} (h : TInv σ env a) (e : Evo σ σ') : TInv σ' env a := fun t => (h t).mono e

theorem TInv.put {env : Env} {d : Option Nat} {v : Value} (h : TInv σ env a) (hd : ∀ k, d = some k → k < a.tmps.size) (hr : Rep σ r v) : TInv σ (putE d r env) (a.put d v) := by
  intro t
  cases d with
  | none => exact h t
  | some k =>
    simp only [putE, lk, Act.put]
    by_cases e : k = t
    · subst e
      rw [if_pos rfl]
      have := hd k rfl
      simpa [Array.getD_eq_getD_getElem?, this] using hr
    · rw [if_neg e]
      have := h t
      simp only [Array.getD_eq_getD_getElem?, Array.getElem?_setIfInBounds_ne e] at this ⊢
      exact this

theorem gval_sound {env : Env} {ops : Array Oper} {o : Oper} {ao : Option (Nat × Bool)} {g : Bool} (ht : TInv σ env a) (hc : cG ops o.guard = some ao) (hg : gval env ao = some g) : Region.wanted o (yielded ops a.tmps) = g := by
  unfold Region.wanted
  cases hgd : o.guard with
  | none =>
    rw [hgd] at hc
    simp [cG] at hc
    subst hc
    simp [gval] at hg
    simpa using hg
  | some p =>
    obtain ⟨j, want⟩ := p
    rw [hgd] at hc
    simp only [cG] at hc
    split at hc
    · rename_i d hd
      simp at hc
      subst hc
      simp only [gval] at hg
      have hr := ht d
      have hy : yielded ops a.tmps j = match a.tmps[d]? with | some (.bool b) => some b | _ => none := by
        unfold yielded
        rw [hd]
        simp only [Option.bind_some]
        cases a.tmps[d]? with
        | none => rfl
        | some v => cases v <;> rfl
      simp only [hy]
      unfold gb at hg
      split at hg
      · rename_i b hb
        rw [hb] at hr
        simp [Rep] at hr
        simp at hg
        cases hv : a.tmps[d]? with
        | none => simp [hv, undef] at hr
        | some v => simp [hv] at hr; subst hr; subst hg; cases b <;> cases want <;> rfl
      · rename_i c b hb
        rw [hb] at hr
        simp only [Rep] at hr
        simp at hg
        subst hg
        cases c with
        | true =>
          have hr' := hr.1 rfl
          cases hv : a.tmps[d]? with
          | none => simp [hv, undef] at hr'
          | some v => simp [hv] at hr'; subst hr'; cases b <;> cases want <;> rfl
        | false =>
          have hr' := hr.2 rfl
          cases hv : a.tmps[d]? with
          | none => simp
          | some v => simp [hv, undef] at hr'; subst hr'; simp
      · simp at hg
    · simp at hc
end
end Go.Proofs.Ytmmfbjmjhjmccaa.Am
