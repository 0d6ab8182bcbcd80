/-
  The abstract machine, A12.
-/
import Derived.Test.YtdabfcbelkjmgaaDoorA11
/-
  The abstract machine, part 36: two calls of one region walked into.
-/
namespace Go.Proofs.YtdabfcbelkjmgaaDoor.Am
set_option linter.unusedSimpArgs false
set_option linter.unusedVariables false
open Go
section
variable {Γ : Ctx}
/-- From an operation on: some operations, a call walked into, the rest. -/
theorem wpOps_inl (hΓ : Γ.OK) {ops' : Array Oper} {ops : List AOp} {WQ : Exit → Act → World → Prop} (bs : Nat) (e0 : Env) (hx0 : cOps Γ.P Γ.nt ops' ops'.toList = some ops) (k i : Nat) (hki : k ≤ i) {yo : AOp} {K : AV → St → Prop} {σ : Cf} {a : Act} {e e1 : Env} {h h1 : Hp} {c : Nat} {vc : Prop}
    {f : Nat} {args : List AV} {fn : Func} {ac : AC} {rvs : List RV} {ntf : Nat}
    (hf : Γ.P.funcs[f]? = some fn) (hcf : cFun Γ.P fn = some (ac, rvs)) (hnt : fn.ntmps = ntf) (hok : okF Γ.P f) (hyo : ops[i]? = some yo) (hex : exops Γ.S (c + 1) (bs + k) ((ops.drop k).take (i - k)) e h = some (vc, e1, h1)) (hvc : vc) (hg : gval e1 yo.g = some true)
    (hca : callOf e1 yo.k = some (f, args)) (hn : args.length ≤ ntf) (hbody : ∀ hb, awp (Ctx.fn Γ.P Γ.S ntf hb) ac (inlK rvs K) ⟨envOf 0 args, h1, c + 1⟩)
    (hgl : ∀ t, Γ.nt ≤ t → lk e t = lk e0 t) (hI : Inv σ e h a Γ.nt Γ.hb) (hal : ∀ m, σ.al m → m.2 ≤ c ∨ (m.2 = c + 1 ∧ m.1 < bs + k))
    (hrest : ∀ τ a' r s, Evo σ τ → Inv τ (putE yo.d r e1) s.hp a' Γ.nt Γ.hb → (∀ m, τ.al m → m.2 ≤ s.cnt) → (∀ t, Γ.nt ≤ t → lk (putE yo.d r e1) t = lk e0 t) → K r s → wpOpsIn Γ.F 0 Γ.P ops' WQ (List.range' (i + 1) (ops'.size - (i + 1))) a' τ.w) :
    wpOpsIn Γ.F 0 Γ.P ops' WQ (List.range' k (ops'.size - k)) a σ.w := by
  obtain ⟨c1, c2⟩ := cOps_spec hx0
  obtain ⟨_, t0⟩ := cOps_take k hx0
  obtain ⟨t1, _⟩ := cOps_take (i - k) t0
  have hi : i < ops.length := (List.getElem?_eq_some_iff.1 hyo).1
  have hsz : ops.length = ops'.size := c1.trans (by simp)
  have hi' : i < ops'.size := by omega
  have ho : ops'[i]? = some ops'[i] := Array.getElem?_eq_getElem hi'
  obtain ⟨yo', g1, g2⟩ := c2 i ops'[i] (by simp)
  rw [hyo] at g1
  cases g1
  have hlen : ((ops'.toList.drop k).take (i - k)).length = i - k := by simp; omega
  have hr : List.range' k (ops'.size - k) = List.range' k ((ops'.toList.drop k).take (i - k)).length ++ (i :: List.range' (i + 1) (ops'.size - (i + 1))) := by
    rw [hlen, ← List.range'_succ]
    have := List.range'_append_1 (s := k) (m := i - k) (n := ops'.size - (i + 1) + 1)
    rw [show k + (i - k) = i by omega] at this
    rw [this]
    congr 1
    omega
  rw [hr]
  refine wpOps_pre hΓ (cnt := c) bs e0 _ ((ops'.toList.drop k).take (i - k)) k ((ops.drop k).take (i - k)) σ e e1 h h1 a vc hgl (fun j hj => ?_) t1 hex hvc hI hal fun a1 σ1 ev1 hI1 hal1 hfar1 => ?_
  · have : j < i - k := by omega
    simp [List.getElem?_take, this]
  rw [wpOpsIn_cons]
  unfold wpOpIn
  simp only [ho]
  obtain ⟨hno, k4, k3, vals, hv, hrun⟩ := call_enter hI1 g2 hok hca
  have hw := gval_sound hI1.t k4 hg
  simp only [hw, if_true]
  refine ⟨fun f _ => hΓ.F.fn f, ?_⟩
  rw [Oper.semAt_eq _ a1.eval _ hno, hrun]
  refine ⟨fun h => by simp [hΓ.F.depth] at h, hΓ.F.calls ((callsIn_wide.1 (inl_call hΓ.S hf hcf hnt hn hI1.df.gl hI1.h (cnt := c + 1) (fun m hm => by rcases hal1 m hm with h | h <;> omega) hv (hbody _))).mono ?_)⟩
  rintro en w' ⟨v, τ, s, r, rfl, rfl, evτ, hτ, alτ, rv, hK⟩
  have hd : ∀ k, ops'[i].dst = some k → k < a1.tmps.size := by
    rw [k3]; intro d hd
    rw [hI1.sz]; exact cOp_d g2 d hd
  have hI2 : Inv τ (putE yo.d r e1) s.hp (a1.put ops'[i].dst v) Γ.nt Γ.hb := by
    rw [← k3]
    exact ⟨hτ, (hI1.t.mono evτ).put hd rv, by rw [Act.size_put]; exact hI1.sz, by rw [Act.defers_put, lk_putE (fun d hd => cOp_d g2 d (k3 ▸ hd)) (show Γ.nt ≤ dk Γ.nt from Nat.le_add_right _ _)]; exact hI1.df.mono evτ⟩
  exact hrest τ _ r s (ev1.trans evτ) hI2 alτ (fun t ht => (lk_putE (cOp_d g2) ht).trans (hfar1 t ht)) hK

/-- After a call: operations up to another call, that is walked into too. -/
def callK (P : Program) (S : Tab) (rid i j : Nat) (d : Option Nat) (mid : List AOp) (yo2 : AOp) (post : List AOp) (f2 ntf2 : Nat) (ac2 : AC) (rvs2 : List RV) (e1 : Env) (Q : AE → St → Prop) (r : AV) (s : St) : Prop :=
  ∃ (vc2 : Prop) (e2 : Env) (h2 : Hp) (args2 : List AV), exops S (s.cnt + 1) (100 * rid + (i + 1)) mid (putE d r e1) s.hp = some (vc2, e2, h2) ∧ vc2 ∧ gval e2 yo2.g = some true ∧ callOf e2 yo2.k = some (f2, args2) ∧ args2.length ≤ ntf2 ∧
    ∀ hb, awp (Ctx.fn P S ntf2 hb) ac2 (inlK rvs2 (restK S rid j yo2.d post e2 Q)) ⟨envOf 0 args2, h2, s.cnt + 1⟩

theorem awp_inl2 (hΓ : Γ.OK) (i j : Nat) (hij : i < j) {rid : Nat} {ops : List AOp} {yo yo2 : AOp} {Q : AE → St → Prop} {e e1 : Env} {h h1 : Hp} {c : Nat} {vc : Prop} {f f2 : Nat} {args : List AV} {fn fn2 : Func} {ac ac2 : AC} {rvs rvs2 : List RV} {ntf ntf2 : Nat}
    (hf : Γ.P.funcs[f]? = some fn) (hcf : cFun Γ.P fn = some (ac, rvs)) (hnt : fn.ntmps = ntf) (hok : okF Γ.P f) (hf2 : Γ.P.funcs[f2]? = some fn2) (hcf2 : cFun Γ.P fn2 = some (ac2, rvs2)) (hnt2 : fn2.ntmps = ntf2) (hok2 : okF Γ.P f2)
    (hyo : ops[i]? = some yo) (hyo2 : ops[j]? = some yo2) (hex : exops Γ.S (c + 1) (100 * rid) (ops.take i) e h = some (vc, e1, h1)) (hvc : vc) (hg : gval e1 yo.g = some true)
    (hca : callOf e1 yo.k = some (f, args)) (hn : args.length ≤ ntf)
    (hbody : ∀ hb, awp (Ctx.fn Γ.P Γ.S ntf hb) ac (inlK rvs (callK Γ.P Γ.S rid i j yo.d ((ops.drop (i + 1)).take (j - (i + 1))) yo2 (ops.drop (j + 1)) f2 ntf2 ac2 rvs2 e1 Q)) ⟨envOf 0 args, h1, c + 1⟩) : awp Γ (.reg rid ops) Q ⟨e, h, c⟩ := by
  intro code hc σ a hA
  cases code with
  | region id ops' d =>
    simp only [cCode] at hc
    obtain ⟨l0, hx0, ⟨rfl, e0⟩ | ⟨_, _, _, _, e0⟩⟩ := cReg_inv hc
    · cases e0
      refine wpIn_region ?_
      have hr0 : List.range ops'.size = List.range' 0 (ops'.size - 0) := by rw [List.range_eq_range']; simp
      rw [hr0]
      refine wpOps_inl hΓ (100 * rid) e hx0 0 i (Nat.zero_le _) (c := c) hf hcf hnt hok hyo (by simpa using hex) hvc hg hca hn hbody (fun _ _ => rfl) hA.1 (fun m hm => .inl (hA.2.1 m hm)) ?_
      rintro τ a' r s ev1 hI1 al1 gl1 ⟨vc2, e2, h2, args2, q1, q2, q3, q4, q5, q6⟩
      refine wpOps_inl hΓ (100 * rid) e hx0 (i + 1) j hij (c := s.cnt) hf2 hcf2 hnt2 hok2 hyo2 q1 q2 q3 q4 q5 q6 gl1 hI1 (fun m hm => .inl (al1 m hm)) ?_
      rintro τ2 a2 r2 s2 ev2 hI2 al2 gl2 ⟨vc3, e3, h3, p1, p2, p3⟩
      obtain ⟨c1, _⟩ := cOps_spec hx0
      obtain ⟨_, t3⟩ := cOps_take (j + 1) hx0
      have hj : j < ops.length := (List.getElem?_eq_some_iff.1 hyo2).1
      have hsz : ops.length = ops'.size := c1.trans (by simp)
      have hl : (ops'.toList.drop (j + 1)).length = ops'.size - (j + 1) := by simp
      have := wpOps_seq hΓ (ops := ops') (Q := Q) (cnt := s2.cnt) (100 * rid) e σ hA.2.2 (ops'.toList.drop (j + 1)) (j + 1) (ops.drop (j + 1)) τ2 _ _ _ _ _ vc3 gl2 (fun j => by simp) (by simp; omega) t3 p1 p2 (ev1.trans ev2) hI2 (fun m hm => .inl (al2 m hm)) p3
      rw [hl] at this
      exact this
    · cases e0
  | seq x y => simp only [cCode] at hc; split at hc <;> simp at hc
  | cond c x y => simp only [cCode] at hc; split at hc <;> simp at hc
  | rangeFunc f ps x y => simp only [cCode] at hc; split at hc <;> simp at hc
  | _ => simp [cCode] at hc
end
theorem awp_inlF2 {P : Program} {S : Tab} {nt hb : Nat} (hS : TabOK P S) (i j : Nat) (hij : i < j) {rid : Nat} {ops mid post : List AOp} {d d2 : Option Nat} {g g2 : Option (Nat × Bool)} {k k2 : AK} {Q : AE → St → Prop} {e e1 : Env} {h h1 : Hp} {c : Nat} {vc : Prop} {f f2 : Nat} {args : List AV} {fn fn2 : Func} {ac ac2 : AC} {rvs rvs2 : List RV} {ntf ntf2 : Nat}
    (hf : P.funcs[f]? = some fn) (hcf : cFun P fn = some (ac, rvs)) (hnt : fn.ntmps = ntf) (hok : okF P f) (hf2 : P.funcs[f2]? = some fn2) (hcf2 : cFun P fn2 = some (ac2, rvs2)) (hnt2 : fn2.ntmps = ntf2) (hok2 : okF P f2)
    (hyo : ops[i]? = some ⟨d, g, k⟩) (hyo2 : ops[j]? = some ⟨d2, g2, k2⟩) (hmid : (ops.drop (i + 1)).take (j - (i + 1)) = mid) (hpost : ops.drop (j + 1) = post) (hex : exops S (c + 1) (100 * rid) (ops.take i) e h = some (vc, e1, h1)) (hvc : vc) (hg : gval e1 g = some true)
    (hca : callOf e1 k = some (f, args)) (hn : args.length ≤ ntf) (hbody : ∀ hb, awp (Ctx.fn P S ntf hb) ac (inlK rvs (callK P S rid i j d mid ⟨d2, g2, k2⟩ post f2 ntf2 ac2 rvs2 e1 Q)) ⟨envOf 0 args, h1, c + 1⟩) : awp (Ctx.fn P S nt hb) (.reg rid ops) Q ⟨e, h, c⟩ := by
  subst hmid hpost
  exact awp_inl2 (Ctx.fn_ok hS) i j hij hf hcf hnt hok hf2 hcf2 hnt2 hok2 hyo hyo2 hex hvc hg hca hn hbody
theorem inlC_n {P : Program} {S : Tab} {rid i j : Nat} {d d2 : Option Nat} {g2 : Option (Nat × Bool)} {k2 : AK} {mid post : List AOp} {f2 ntf2 : Nat} {ac2 : AC} {rvs rvs2 : List RV} {e1 e e2 : Env} {h h2 : Hp} {c : Nat} {Q : AE → St → Prop} {vc vc2 : Prop} {xs args2 : List AV}
    (h1 : exRVs e h rvs = some (vc, xs)) (hx : exops S (c + 1) (100 * rid + (i + 1)) mid (putE d (one xs) e1) h = some (vc2, e2, h2)) (hv : vc) (hv2 : vc2) (hg : gval e2 g2 = some true) (hca : callOf e2 k2 = some (f2, args2)) (hn : args2.length ≤ ntf2)
    (hb : ∀ hb, awp (Ctx.fn P S ntf2 hb) ac2 (inlK rvs2 (restK S rid j d2 post e2 Q)) ⟨envOf 0 args2, h2, c + 1⟩) : inlK rvs (callK P S rid i j d mid ⟨d2, g2, k2⟩ post f2 ntf2 ac2 rvs2 e1 Q) .n ⟨e, h, c⟩ := ⟨vc, xs, h1, hv, vc2, e2, h2, args2, hx, hv2, hg, hca, hn, hb⟩
theorem inlC_r {P : Program} {S : Tab} {rid i j : Nat} {d d2 : Option Nat} {g2 : Option (Nat × Bool)} {k2 : AK} {mid post : List AOp} {f2 ntf2 : Nat} {ac2 : AC} {rvs rvs2 : List RV} {e1 e e2 : Env} {h h2 : Hp} {c : Nat} {Q : AE → St → Prop} {vc vc2 : Prop} {xs args2 : List AV}
    (h1 : exRVs e h rvs = some (vc, xs)) (hx : exops S (c + 1) (100 * rid + (i + 1)) mid (putE d (one xs) e1) h = some (vc2, e2, h2)) (hv : vc) (hv2 : vc2) (hg : gval e2 g2 = some true) (hca : callOf e2 k2 = some (f2, args2)) (hn : args2.length ≤ ntf2)
    (hb : ∀ hb, awp (Ctx.fn P S ntf2 hb) ac2 (inlK rvs2 (restK S rid j d2 post e2 Q)) ⟨envOf 0 args2, h2, c + 1⟩) : inlK rvs (callK P S rid i j d mid ⟨d2, g2, k2⟩ post f2 ntf2 ac2 rvs2 e1 Q) .r ⟨e, h, c⟩ := ⟨vc, xs, h1, hv, vc2, e2, h2, args2, hx, hv2, hg, hca, hn, hb⟩
end Go.Proofs.YtdabfcbelkjmgaaDoor.Am
