/-
  The abstract machine, part 19: functions that are ranged over: their own side.
-/
import Derived.Test.YtmmfbjmjhjmccaaAm18
namespace Go.Proofs.Ytmmfbjmjhjmccaa.Am
set_option linter.unusedSimpArgs false
set_option linter.unusedVariables false
open Go

/-- Where the count of the rounds is kept: beyond all temporaries. -/
def gs : Nat := 1000000
@[reducible] def ghost (k : Int) : AV := .gd false (.v (.int .i64 k))

/-- What those who range over a function see to. J k: k rounds have been; J (-1): no more. -/
structure Rng (P : Program) (F : Fence) (l hb : Nat) (xs : List (List AV)) (J : Int → Cf → Prop) : Prop where
  evo : ∀ {k : Int} {σ σ' : Cf}, J k σ → Evo σ σ' → J k σ'
  oth : ∀ {k : Int} {σ σ' : Cf}, J k σ → Oth σ σ' → σ'.O = σ.O → (∀ (b : Nat) (o : Obj), b < hb ∨ σ.O b → σ.w.heap[b]? = some o → σ'.w.heap[b]? = some o) → J k σ'
  rnd : ∀ {k : Nat} {args : List AV} {σ : Cf} {hp : Hp} {vals : List Value}, J k σ → HInv σ hp → xs[k]? = some args → RepL σ args vals →
    ∃ f tmps assign body, (Instr.yield l vals.toArray).run P σ.w = .ok (.round l f tmps assign body) σ.w ∧ RoundIn F 0 P l f tmps assign body σ.w fun e w' => ∃ (b : Bool) (σ' : Cf), e = .returned (.bool b) ∧ σ'.w = w' ∧ Oth σ σ' ∧ (∀ (b : Nat) (o : Obj), ¬ σ.O b → σ.w.heap[b]? = some o → σ'.w.heap[b]? = some o ∧ ¬ σ'.O b) ∧ J (if b = true then k + 1 else -1) σ'

def Ctx.it (P : Program) (F : Fence) (S : Tab) (nt hb : Nat) (J : Int → Cf → Prop) (hnt : nt ≤ gs) (evo : ∀ {k : Int} {σ σ' : Cf}, J k σ → Evo σ σ' → J k σ') : Ctx :=
  { P := P, F := F, S := S, nt := nt, hb := hb, R := fun _ _ => True, G := fun e σ => ∀ k, lk e gs = ghost k → J k σ
    ofE := fun _ => trivial, tr := fun _ _ => trivial
    g := fun hG e ht k hk => by
      rcases ht gs hnt with h | h
      · rw [h] at hk; cases hk
      · exact evo (hG k (h ▸ hk)) e }

variable {Γ : Ctx}

/-- The first operations of a region, in the order of its text. -/
theorem wpOps_pre (hΓ : Γ.OK) {ops : Array Oper} {Q : Exit → Act → World → Prop} {cnt : Nat} (bs : Nat) (e0 : Env) (rest : List Nat) : ∀ (l : List Oper) (k : Nat) (aops : List AOp) (σ : Cf) (env env' : Env) (hp hp' : Hp) (a : Act) (vc : Prop),
    (∀ t, Γ.nt ≤ t → lk env t = lk e0 t) → (∀ j, j < l.length → l[j]? = ops[k + j]?) → cOps Γ.P Γ.nt ops l = some aops → exops Γ.S (cnt + 1) (bs + k) aops env hp = some (vc, env', hp') → vc → Inv σ env hp a Γ.nt Γ.hb → (∀ m, σ.al m → m.2 ≤ cnt ∨ (m.2 = cnt + 1 ∧ m.1 < bs + k)) →
    (∀ a' σ', Evo σ σ' → Inv σ' env' hp' a' Γ.nt Γ.hb → (∀ m, σ'.al m → m.2 ≤ cnt ∨ (m.2 = cnt + 1 ∧ m.1 < bs + (k + l.length))) → (∀ t, Γ.nt ≤ t → lk env' t = lk e0 t) → wpOpsIn Γ.F 0 Γ.P ops Q rest a' σ'.w) →
    wpOpsIn Γ.F 0 Γ.P ops Q (List.range' k l.length ++ rest) a σ.w
  | [], k, aops, σ, env, env', hp, hp', a, vc, hgl, hl, hc, hex, hvc, hI, hal, hQ => by
    simp [cOps] at hc; subst hc
    simp only [exops, Option.some.injEq, Prod.mk.injEq] at hex
    obtain ⟨_, rfl, rfl⟩ := hex
    simp only [List.length_nil, List.range'_zero, List.nil_append]
    exact hQ a σ (Evo.refl σ) hI (fun m hm => hal m hm) hgl
  | o :: l, k, aops, σ, env, env', hp, hp', a, vc, hgl, hl, hc, hex, hvc, hI, hal, hQ => by
    simp only [cOps] at hc
    split at hc
    · rename_i x xs hx hxs
      simp at hc; subst hc
      simp only [exops] at hex
      split at hex
      · simp at hex
      rename_i v1 r1 ws1 hex1
      split at hex
      · simp at hex
      rename_i v2 e2 h2 hex2
      simp only [Option.some.injEq, Prod.mk.injEq] at hex
      obtain ⟨rfl, rfl, rfl⟩ := hex
      have ho : ops[k]? = some o := by have := hl 0 (by simp); simpa using this.symm
      have hnm : ¬ σ.al (bs + k, cnt + 1) := by
        intro h
        rcases hal _ h with h | h
        · simp at h; omega
        · simp at h
      simp only [List.length_cons, List.range'_succ, List.cons_append]
      rw [wpOpsIn_cons]
      refine exop_sound hΓ.S hΓ.F (n := 0) ho hx hI hnm hex1 hvc.1 fun a' σ' e' hI' hal' => ?_
      refine wpOps_pre hΓ bs e0 rest l (k + 1) xs σ' _ _ _ _ a' v2 (fun t ht => (lk_putE (cOp_d hx) ht).trans (hgl t ht)) (fun j hj => ?_) hxs hex2 hvc.2 hI' (fun m hm => ?_) fun a'' σ'' e'' hI'' hal'' hg'' => hQ a'' σ'' (e'.trans e'') hI'' (fun m hm => ?_) hg''
      · have := hl (j + 1) (by simp; omega)
        simpa [Nat.add_assoc, Nat.add_comm 1 j] using this
      · rcases hal' m hm with h | rfl
        · rcases hal m h with h | h <;> omega
        · right; simp
      · rcases hal'' m hm with h | h
        · exact .inl h
        · right; simp only [List.length_cons]; omega
    · simp at hc

/-- A yield. -/
theorem yield_run {P : Program} {o : Oper} {a : Act} {w : World} {c : Call} {x : Operand} {l : Nat} {nx : Go.Next} (ho : o.op = .call c) (hc : c.callee = .value x) (hX : a.eval x = .func (.yield l) #[] #[])
    (hy : (Instr.yield l (c.args.toList.map a.eval).toArray).run P w = .ok nx w) : (execOp a.eval o).run P w = .ok nx w := by
  have e : (c.args.toList.map a.eval).toArray = c.args.map a.eval := by apply Array.ext'; simp
  rw [e] at hy
  simp only [execOp, ho, resolve, hc, hX, Sem.run_bind, Deferred.ofValue, Sem.run_pure, Result.andThen, invoke]
  simpa using hy

theorem cOps_take {P : Program} {nt : Nat} {ops : Array Oper} : ∀ {l : List Oper} {xs : List AOp} (i : Nat), cOps P nt ops l = some xs → cOps P nt ops (l.take i) = some (xs.take i) ∧ cOps P nt ops (l.drop i) = some (xs.drop i)
  | l, xs, 0, h => by simp [cOps, h]
  | [], xs, i + 1, h => by simp [cOps] at h; subst h; simp [cOps]
  | o :: l, xs, i + 1, h => by
    simp only [cOps] at h
    split at h
    · rename_i x ys hx hys
      simp at h; subst h
      obtain ⟨h1, h2⟩ := cOps_take i hys
      simp only [List.take_succ_cons, List.drop_succ_cons, cOps, hx, h1, h2]
      exact ⟨trivial, trivial⟩
    · simp at h

theorem cOp_cv {P : Program} {nt : Nat} {ops : Array Oper} {o : Oper} {yo : AOp} {x : Opd} {as : List Opd} (h : cOp P nt ops o = some yo) (hk : yo.k = .cv x as) : ∃ c y, o.op = .call c ∧ c.callee = .value y ∧ x = opd y ∧ as = c.args.toList.map opd ∧ o.dst = yo.d ∧ cG ops o.guard = some yo.g := by
  unfold cOp at h
  split at h
  · simp at h
  rename_i g hg
  split at h
  · simp at h
  split at h
  · simp at h
    subst h
    simp only at hk
    cases ho : o.op with
    | call c =>
      rw [ho] at hk
      simp only [cK, cCall] at hk
      split at hk
      · cases hk
      · rename_i y hno hy
        injection hk with h1 h2
        exact ⟨c, y, rfl, hy, h1.symm, h2.symm, rfl, hg⟩
      all_goals (repeat' (split at hk)) <;> cases hk
    | _ =>
      exfalso
      rw [ho] at hk
      simp only [cK, cBuild, cBin] at hk
      (repeat' (split at hk)) <;> cases hk
  · simp at h
end Go.Proofs.Ytmmfbjmjhjmccaa.Am
