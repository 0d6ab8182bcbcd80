/-
  The abstract machine, part 29: the rule for a call that is walked into.
-/
import Derived.Test.YtmmfbjmjhjmccaaAm28
namespace Go.Proofs.Ytmmfbjmjhjmccaa.Am
set_option linter.unusedSimpArgs false
set_option linter.unusedVariables false
open Go

theorem cOp_call {P : Program} {nt : Nat} {ops : Array Oper} {o : Oper} {yo : AOp} {f : Nat} {as : List Opd} (h : cOp P nt ops o = some yo) (hk : yo.k = .call f as) : ∃ c, o.op = .call c ∧ c.callee = .value (.func f) ∧ as = c.args.toList.map opd ∧ o.dst = yo.d ∧ cG ops o.guard = some yo.g := by
  unfold cOp at h
  split at h
  · simp at h
  rename_i g hg
  split at h
  · simp at h
  split at h
  · simp at h
    subst h
    simp only at hk
    cases ho : o.op with
    | call c =>
      rw [ho] at hk
      simp only [cK, cCall] at hk
      split at hk
      · rename_i f' hy
        injection hk with h1 h2
        subst h1
        exact ⟨c, rfl, hy, h2.symm, rfl, hg⟩
      all_goals (repeat' (split at hk)) <;> cases hk
    | _ =>
      exfalso
      rw [ho] at hk
      simp only [cK, cBuild, cBin] at hk
      (repeat' (split at hk)) <;> cases hk
  · simp at h

section
variable {Γ : Ctx}

/-- What a call operation does first. -/
theorem call_enter {P : Program} {σ : Cf} {env : Env} {hp : Hp} {a : Act} {nt hb : Nat} {ops : Array Oper} {o : Oper} {yo : AOp} {f : Nat} {args : List AV} (hI : Inv σ env hp a nt hb) (hc : cOp P nt ops o = some yo) (hok : okF P f) (hca : callOf env yo.k = some (f, args)) :
    (∀ c, o.op ≠ .defer c) ∧ cG ops o.guard = some yo.g ∧ o.dst = yo.d ∧ ∃ vals : List Value, RepL σ args vals ∧ (execOp a.eval o).run P σ.w = .ok (.enter f vals.toArray) σ.w := by
  cases hk : yo.k with
  | call f' as =>
    rw [hk] at hca
    simp only [callOf, Option.some.injEq, Prod.mk.injEq] at hca
    obtain ⟨rfl, rfl⟩ := hca
    obtain ⟨c, k1, k2, rfl, k3, k4⟩ := cOp_call hc hk
    refine ⟨fun c hd => (by rw [k1] at hd; cases hd), k4, k3, c.args.toList.map a.eval, args_rep (g := true) rfl hI.t c.args.toList, ?_⟩
    have hr := fun args => run_call hok args σ.w
    simp only [execOp, k1, resolve, k2, Sem.run_bind, Deferred.ofValue, Sem.run_pure, Result.andThen, invoke, Act.eval, hr]
    congr 2
    apply Array.ext'
    simp [Act.eval]
  | cv x as =>
    rw [hk] at hca
    simp only [callOf] at hca
    split at hca
    · rename_i fi fst cps hx
      simp only [Option.some.injEq, Prod.mk.injEq] at hca
      obtain ⟨rfl, rfl⟩ := hca
      obtain ⟨c, y, k1, k2, rfl, rfl, k3, k4⟩ := cOp_cv hc hk
      have hX := arg_rep (g := true) rfl hI.t y
      rw [hx] at hX
      simp only [Rep] at hX
      obtain ⟨xs, ys, e1, e2, e3⟩ := hX
      refine ⟨fun c hd => (by rw [k1] at hd; cases hd), k4, k3, xs ++ c.args.toList.map a.eval ++ ys, repL_app (repL_app e2 (args_rep (g := true) rfl hI.t c.args.toList)) e3, ?_⟩
      have hr := fun args => run_call hok args σ.w
      simp only [execOp, k1, resolve, k2, e1, Sem.run_bind, Deferred.ofValue, Sem.run_pure, Result.andThen, invoke, hr]
      congr 1
      congr 1
      apply Array.ext'
      simp
    · simp at hca
  | _ => rw [hk] at hca; simp [callOf] at hca

theorem awp_inl (hΓ : Γ.OK) (i : Nat) {rid : Nat} {ops : List AOp} {yo : AOp} {Q : AE → St → Prop} {e e1 : Env} {h h1 : Hp} {c : Nat} {vc : Prop} {f : Nat} {args : List AV} {fn : Func} {ac : AC} {rvs : List RV} {ntf : Nat}
    (hf : Γ.P.funcs[f]? = some fn) (hcf : cFun Γ.P fn = some (ac, rvs)) (hnt : fn.ntmps = ntf) (hok : okF Γ.P f) (hyo : ops[i]? = some yo) (hex : exops Γ.S (c + 1) (100 * rid) (ops.take i) e h = some (vc, e1, h1)) (hvc : vc) (hg : gval e1 yo.g = some true)
    (hca : callOf e1 yo.k = some (f, args)) (hn : args.length ≤ ntf) (hbody : ∀ hb, awp (Ctx.fn Γ.P Γ.S ntf hb) ac (inlK rvs (restK Γ.S rid i yo.d (ops.drop (i + 1)) e1 Q)) ⟨envOf 0 args, h1, c + 1⟩) : awp Γ (.reg rid ops) Q ⟨e, h, c⟩ := by
  intro code hc σ a hA
  cases code with
  | region id ops' d =>
    simp only [cCode] at hc
    obtain ⟨l0, hx0, ⟨rfl, e0⟩ | ⟨_, _, _, _, e0⟩⟩ := cReg_inv hc
    · cases e0
      refine wpIn_region ?_
      obtain ⟨c1, c2⟩ := cOps_spec hx0
      obtain ⟨t1, t2⟩ := cOps_take i hx0
      obtain ⟨_, t3⟩ := cOps_take (i + 1) hx0
      have hi : i < ops.length := (List.getElem?_eq_some_iff.1 hyo).1
      have hsz : ops.length = ops'.size := c1.trans (by simp)
      have hi' : i < ops'.size := by omega
      have ho : ops'[i]? = some ops'[i] := Array.getElem?_eq_getElem hi'
      obtain ⟨yo', g1, g2⟩ := c2 i ops'[i] (by simp)
      rw [hyo] at g1
      cases g1
      have hr : List.range ops'.size = List.range' 0 (ops'.toList.take i).length ++ (i :: List.range' (i + 1) (ops'.toList.drop (i + 1)).length) := by
        have e1 : (ops'.toList.take i).length = i := by simp; omega
        have e2 : (ops'.toList.drop (i + 1)).length = ops'.size - (i + 1) := by simp
        rw [e1, e2, List.range_eq_range', ← List.range'_succ]
        have := List.range'_append_1 (s := 0) (m := i) (n := ops'.size - (i + 1) + 1)
        rw [Nat.zero_add] at this
        rw [this]
        congr 1
        omega
      rw [hr]
      refine wpOps_pre hΓ (cnt := c) (100 * rid) e _ (ops'.toList.take i) 0 (ops.take i) σ e e1 h h1 a vc (fun _ _ => rfl) (fun j hj => ?_) t1 hex hvc hA.1 (fun m hm => .inl (hA.2.1 m hm)) fun a1 σ1 ev1 hI1 hal1 hfar1 => ?_
      · have : j < i := by simp at hj; omega
        simp [List.getElem?_take, this]
      rw [wpOpsIn_cons]
      unfold wpOpIn
      simp only [ho]
      obtain ⟨hno, k4, k3, vals, hv, hrun⟩ := call_enter hI1 g2 hok hca
      have hw := gval_sound hI1.t k4 hg
      simp only [hw, if_true]
      refine ⟨fun f _ => hΓ.F.fn f, ?_⟩
      rw [Oper.semAt_eq _ a1.eval _ hno, hrun]
      refine ⟨fun h => by simp [hΓ.F.depth] at h, hΓ.F.calls ((callsIn_wide.1 (inl_call hΓ.S hf hcf hnt hn hI1.h (cnt := c + 1) (fun m hm => by rcases hal1 m hm with h | h <;> omega) hv (hbody _))).mono ?_)⟩
      rintro en w' ⟨v, τ, s, r, rfl, rfl, evτ, hτ, alτ, rv, vc2, e2, h2, q1, q2, q3⟩
      have hd : ∀ k, ops'[i].dst = some k → k < a1.tmps.size := by
        rw [k3]; intro d hd
        rw [hI1.sz]; exact cOp_d g2 d hd
      have hI2 : Inv τ (putE yo.d r e1) s.hp (a1.put ops'[i].dst v) Γ.nt Γ.hb := by
        rw [← k3]
        exact ⟨hτ, (hI1.t.mono evτ).put hd rv, by rw [Act.size_put]; exact hI1.sz, by rw [Act.defers_put]; exact hI1.df.mono evτ⟩
      exact wpOps_seq hΓ (ops := ops') (Q := Q) (cnt := s.cnt) (100 * rid) e σ hA.2.2 (ops'.toList.drop (i + 1)) (i + 1) (ops.drop (i + 1)) τ _ _ _ _ _ vc2 (fun t ht => (lk_putE (cOp_d g2) ht).trans (hfar1 t ht)) (fun j => by simp) (by simp; omega) t3 q1 q2 (ev1.trans evτ) hI2 (fun m hm => .inl (alτ m hm)) q3
    · cases e0
  | seq x y => simp only [cCode] at hc; split at hc <;> simp at hc
  | cond c x y => simp only [cCode] at hc; split at hc <;> simp at hc
  | rangeFunc f ps x y => simp only [cCode] at hc; split at hc <;> simp at hc
  | _ => simp [cCode] at hc
end
end Go.Proofs.Ytmmfbjmjhjmccaa.Am
