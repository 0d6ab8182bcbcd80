/-
  The abstract machine, A15.
-/
import Derived.Test.YtdabfcbelkjmgaaDoorA14
/-
  The abstract machine: panics, deferred closures, recover.
-/
namespace Go.Proofs.YtdabfcbelkjmgaaDoor.Am
set_option linter.unusedSimpArgs false
set_option linter.unusedVariables false
open Go

/-- A function in which a closure may be deferred. -/
def Ctx.fd (P : Program) (S : Tab) (nt hb : Nat) : Ctx := { P := P, F := Fence.wide, S := S, nt := nt, hb := (hb, true), R := Evo, G := fun _ _ => True, ofE := id, tr := Evo.trans, g := fun _ _ _ => trivial }
theorem Ctx.fd_ok {P : Program} {S : Tab} {nt hb : Nat} (h : TabOK P S) : (Ctx.fd P S nt hb).OK := ⟨h, .inl (Eq.refl _)⟩
theorem fd_S {P : Program} {S : Tab} {nt hb : Nat} : (Ctx.fd P S nt hb).S = S := rfl

theorem cOp_k {P : Program} {nt : Nat} {ops : Array Oper} {o : Oper} {yo : AOp} (h : cOp P nt ops o = some yo) : yo.k = cK P o.op ∧ o.dst = yo.d ∧ cG ops o.guard = some yo.g := by
  unfold cOp at h
  split at h
  · simp at h
  rename_i g hg
  split at h
  · simp at h; subst h; exact ⟨rfl, rfl, hg⟩
  · simp at h
theorem cK_pan {P : Program} {op : Op} {x : Opd} (h : cK P op = .pan x) : ∃ y, op = .panic y ∧ x = opd y := by
  cases op with
  | panic y => simp only [cK, AK.pan.injEq] at h; exact ⟨y, rfl, h.symm⟩
  | _ =>
    exfalso
    simp only [cK, cBuild, cBin, cStr, cIfc, cPtr, cCall] at h
    (repeat' (split at h)) <;> cases h
theorem cK_dfr {P : Program} {op : Op} {x : Opd} (h : cK P op = .dfr x) : ∃ c y, op = .defer c ∧ c.callee = .value y ∧ c.args.toList = [] ∧ x = opd y := by
  cases op with
  | defer c =>
    simp only [cK] at h
    split at h
    · rename_i y e1 e2
      simp only [AK.dfr.injEq] at h
      exact ⟨c, y, rfl, e1, e2, h.symm⟩
    · cases h
  | _ =>
    exfalso
    simp only [cK, cBuild, cBin, cStr, cIfc, cPtr, cCall] at h
    (repeat' (split at h)) <;> cases h
theorem cK_rcv {P : Program} {op : Op} (h : cK P op = .rcv) : ∃ c, op = .call c ∧ c.callee = .builtin .recover := by
  cases op with
  | call c =>
    simp only [cK, cCall] at h
    split at h
    all_goals first | exact ⟨c, rfl, ‹_›⟩ | ((repeat' (split at h)) <;> cases h)
  | _ =>
    exfalso
    simp only [cK, cBuild, cBin, cStr, cIfc, cPtr] at h
    (repeat' (split at h)) <;> cases h

variable {Γ : Ctx}
/-- The last operation of a region, in the order of its text. -/
theorem wpOps_last (hΓ : Γ.OK) {ops' : Array Oper} {ops : List AOp} {WQ : Exit → Act → World → Prop} {σ : Cf} {a : Act} {e e1 : Env} {h h1 : Hp} {c rid i : Nat} {vc : Prop} {yo : AOp} (hx0 : cOps Γ.P Γ.nt ops' ops'.toList = some ops) (hlen : ops.length = i + 1) (hyo : ops[i]? = some yo) (hgu : yo.g = none)
    (hex : exops Γ.S (c + 1) (100 * rid) (ops.take i) e h = some (vc, e1, h1)) (hvc : vc) (hA : At Γ σ ⟨e, h, c⟩ a)
    (hlast : ∀ (o : Oper) (a1 : Act) (σ1 : Cf), ops'[i]? = some o → yo.k = cK Γ.P o.op → o.dst = yo.d → Region.wanted o (yielded ops' a1.tmps) = true → Evo σ σ1 → Inv σ1 e1 h1 a1 Γ.nt Γ.hb → (∀ m, σ1.al m → m.2 ≤ c + 1) → (∀ t, Γ.nt ≤ t → lk e1 t = lk e t) →
      wpOpIn Γ.F 0 Γ.P ops' WQ i (wpOpsIn Γ.F 0 Γ.P ops' WQ []) a1 σ1.w) :
    wpOpsIn Γ.F 0 Γ.P ops' WQ (List.range ops'.size) a σ.w := by
  obtain ⟨c1, c2⟩ := cOps_spec hx0
  obtain ⟨t1, t2⟩ := cOps_take i hx0
  have hi : i < ops.length := by omega
  have hsz : ops.length = ops'.size := c1.trans (by simp)
  have hi' : i < ops'.size := by omega
  obtain ⟨yo', g1, g2⟩ := c2 i ops'[i] (by simp)
  rw [hyo] at g1
  cases g1
  have hr : List.range ops'.size = List.range' 0 (ops'.toList.take i).length ++ [i] := by
    have e1 : (ops'.toList.take i).length = i := by simp; omega
    rw [e1, List.range_eq_range', show ops'.size = i + 1 by omega, List.range'_1_concat, Nat.zero_add]
  rw [hr]
  refine wpOps_pre hΓ (cnt := c) (100 * rid) e _ (ops'.toList.take i) 0 (ops.take i) σ e e1 h h1 a vc (fun _ _ => rfl) (fun j hj => ?_) t1 hex hvc hA.1 (fun m hm => .inl (hA.2.1 m hm)) fun a1 σ1 ev1 hI1 hal1 hfar1 => ?_
  · have : j < i := by simp at hj; omega
    simp [List.getElem?_take, this]
  rw [wpOpsIn_cons]
  obtain ⟨q1, q2, q3⟩ := cOp_k g2
  have hw := gval_sound hI1.t q3 (show gval e1 yo.g = some true by rw [hgu]; rfl)
  exact hlast _ a1 σ1 (Array.getElem?_eq_getElem hi') q1 q2 hw ev1 hI1 (fun m hm => by rcases hal1 m hm with h | ⟨h, _⟩ <;> omega) hfar1

theorem awp_pan (hΓ : Γ.OK) (i : Nat) {rid : Nat} {ops : List AOp} {Q : AE → St → Prop} {e e1 : Env} {h h1 : Hp} {c : Nat} {vc : Prop} {d : Option Nat} {x : Opd} {t : TypeId} {v : Value} (hlen : ops.length = i + 1) (hyo : ops[i]? = some ⟨d, none, .pan x⟩)
    (hex : exops Γ.S (c + 1) (100 * rid) (ops.take i) e h = some (vc, e1, h1)) (hvc : vc) (hx : ung true (opv e1 x) = .v (.iface t v)) (hQ : Q (.p (.iface t v)) ⟨e1, h1, c + 1⟩) : awp Γ (.reg rid ops) Q ⟨e, h, c⟩ := by
  intro code hc σ a hA
  cases code with
  | region id ops' d' =>
    simp only [cCode] at hc
    obtain ⟨l0, hx0, ⟨rfl, e0⟩ | ⟨_, _, _, _, e0⟩⟩ := cReg_inv hc
    · cases e0
      refine wpIn_region (wpOps_last hΓ hx0 hlen hyo rfl hex hvc hA fun o a1 σ1 ho hk hd hw ev hI hal hfar => ?_)
      obtain ⟨y, hop, rfl⟩ := cK_pan hk.symm
      have hX := arg_rep (g := true) rfl hI.t y
      rw [hx] at hX
      have hv : a1.eval y = .iface t v := by simpa [Rep] using hX
      unfold wpOpIn
      simp only [ho, hw, if_true]
      refine ⟨fun f _ => hΓ.F.fn f, ?_⟩
      rw [Oper.semAt_eq _ a1.eval _ (fun c e => by rw [hop] at e; cases e)]
      have hr : (execOp a1.eval o).run Γ.P σ1.w = .halt (.panic (.iface t v)) σ1.w := by
        simp [execOp, hop, hv, Instr.panic, goPanic]
      rw [hr, Oper.uponIn_panic]
      exact ⟨σ1, ⟨e1, h1, c + 1⟩, _, rfl, Γ.ofE ev, ⟨hI, hal, Γ.g hA.2.2 ev fun t ht => .inr (hfar t ht)⟩, rfl, hQ⟩
    · cases e0
  | seq x y => simp only [cCode] at hc; split at hc <;> simp at hc
  | cond c x y => simp only [cCode] at hc; split at hc <;> simp at hc
  | rangeFunc f ps x y => simp only [cCode] at hc; split at hc <;> simp at hc
  | _ => simp [cCode] at hc

theorem awp_dfr {P : Program} {S : Tab} {nt hb : Nat} (hS : TabOK P S) (i : Nat) {rid : Nat} {ops : List AOp} {Q : AE → St → Prop} {e e1 : Env} {h h1 : Hp} {c f : Nat} {vc : Prop} {ys : List AV} {x : Opd} (hlen : ops.length = i + 1) (hyo : ops[i]? = some ⟨none, none, .dfr x⟩)
    (hex : exops S (c + 1) (100 * rid) (ops.take i) e h = some (vc, e1, h1)) (hvc : vc) (hx : ung true (opv e1 x) = .clo (.func f) [] ys) (h0 : lk e (dk nt) = .gd false (.tup [])) (hQ : Q .n ⟨(dk nt, .gd false (.clo (.func f) [] ys)) :: e1, h1, c + 1⟩) : awp (Ctx.fd P S nt hb) (.reg rid ops) Q ⟨e, h, c⟩ := by
  intro code hc σ a hA
  cases code with
  | region id ops' d' =>
    simp only [cCode] at hc
    obtain ⟨l0, hx0, ⟨rfl, e0⟩ | ⟨_, _, _, _, e0⟩⟩ := cReg_inv hc
    · cases e0
      refine wpIn_region (wpOps_last (Ctx.fd_ok hS) hx0 hlen hyo rfl hex hvc hA fun o a1 σ1 ho hk hd hw ev hI hal hfar => ?_)
      obtain ⟨cl, y, hop, hcl, har, rfl⟩ := cK_dfr hk.symm
      have hX := arg_rep (g := true) rfl hI.t y
      rw [hx] at hX
      simp only [Rep, RepL] at hX
      obtain ⟨xs0, vs, hv, rfl, hvs⟩ := hX
      have har' : cl.args = #[] := Array.toList_inj.1 har
      unfold wpOpIn
      simp only [ho, hw, if_true]
      refine ⟨fun f _ => trivial, ?_⟩
      have hs : o.semAt (Ctx.fd P S nt hb).F.round a1.eval = execOp a1.eval o := by
        have : (Ctx.fd P S nt hb).F.round = none := rfl
        rw [this]; rfl
      rw [hs]
      have hr : (execOp a1.eval o).run (Ctx.fd P S nt hb).P σ1.w = .ok (.defer { target := .fn (.func f) vs.toArray, args := #[] }) σ1.w := by
        simp [execOp, hop, resolve, hcl, har', hv, Deferred.ofValue]
      rw [hr, Oper.uponIn_defer]
      show wpOpsIn _ _ _ _ _ [] _ _
      simp only [wpOpsIn]
      have hdst : o.dst = none := hd
      rw [hdst]
      refine ⟨σ1, ⟨(dk nt, .gd false (.clo (.func f) [] ys)) :: e1, h1, c + 1⟩, _, Eq.refl _, ev, ⟨⟨hI.h, fun t => ?_, hI.sz, ⟨?_, hI.df.le, hI.df.gl⟩⟩, hal, trivial⟩, rfl, hQ⟩
      · simp only [lk]
        by_cases ht : dk nt = t
        · rw [if_pos ht]
          subst ht
          have h1 : a1.tmps.size = nt := hI.sz
          have h2 : ¬ dk nt < a1.tmps.size := by rw [h1]; exact Nat.not_lt.2 (Nat.le_add_right _ _)
          show Rep _ _ (a1.tmps.getD (dk nt) undef)
          have : a1.tmps.getD (dk nt) undef = undef := by simp [Array.getD, h2]
          rw [this]
          simp [Rep]
        · rw [if_neg ht]; exact hI.t t
      · obtain ⟨ms, dd, q1, q2, q3, q4⟩ := hI.df.sp
        have hms := q4.2.2.2 rfl
        have hdd := q4.2.1 rfl ((hfar (dk nt) (Nat.le_add_right _ _)).trans h0)
        subst hms hdd
        have ek : lk ((dk nt, AV.gd false (.clo (.func f) [] ys)) :: e1) (dk nt) = .gd false (.clo (.func f) [] ys) := by simp only [lk, if_true]
        refine ⟨[], [{ target := .fn (.func f) vs.toArray, args := #[] }], ?_, by simp, .nil, fun h => (by cases h), fun _ h => ?_, fun _ f' ys' h => ?_, fun _ => rfl⟩
        · simp only [Act.put]; rw [q1]; rfl
        · have h' := ek.symm.trans h
          cases h'
        · have h' := ek.symm.trans h
          injection h' with _ h'
          injection h' with h1 _ h2
          injection h1 with h1
          subst h1 h2
          exact ⟨vs, hvs, rfl⟩
    · cases e0
  | seq x y => simp only [cCode] at hc; split at hc <;> simp at hc
  | cond c x y => simp only [cCode] at hc; split at hc <;> simp at hc
  | rangeFunc f ps x y => simp only [cCode] at hc; split at hc <;> simp at hc
  | _ => simp [cCode] at hc
theorem cReg_rcv {P : Program} {nt rid d : Nat} {id : Nat} {ops' : Array Oper} {b : Bool} (h : cReg P nt id ops' b = some (.reg rid [⟨some d, none, .rcv⟩])) :
    ∃ o cl, ops' = #[o] ∧ b = false ∧ o.op = .call cl ∧ cl.callee = .builtin .recover ∧ o.dst = some d ∧ o.guard = none ∧ d < nt := by
  obtain ⟨l0, hx0, ⟨rfl, e0⟩ | ⟨_, _, _, _, e0⟩⟩ := cReg_inv h
  · cases e0
    obtain ⟨c1, c2⟩ := cOps_spec hx0
    have hsz : ops'.size = 1 := by simpa using c1.symm
    obtain ⟨o, ho⟩ : ∃ o, ops' = #[o] := ⟨ops'[0], by
      apply Array.ext
      · simp [hsz]
      · intro i h1 h2
        have : i = 0 := by simp at h2; exact h2
        subst this; simp⟩
    subst ho
    obtain ⟨yo', g1, g2⟩ := c2 0 o (by simp)
    simp at g1
    subst g1
    obtain ⟨q1, q2, q3⟩ := cOp_k g2
    obtain ⟨cl, r1, r2⟩ := cK_rcv q1.symm
    refine ⟨o, cl, rfl, rfl, r1, r2, q2, ?_, cOp_d g2 d rfl⟩
    cases hg : o.guard with
    | none => rfl
    | some p =>
      obtain ⟨j, w⟩ := p
      rw [hg] at q3
      simp only [cG] at q3
      split at q3 <;> cases q3
  · cases e0

/-- What recover gives to a closure that runs as a deferred call, and what becomes of the frame below. -/
def Rcv (u : FrameMode) (rv : Value) (u' : FrameMode) : Prop :=
  ∀ (c₀ : Frame) (cs : List Frame), c₀.mode = u → recoverD (c₀ :: cs) = some (rv, { c₀ with mode := u' } :: cs) ∨ (recoverD (c₀ :: cs) = none ∧ rv = .nilIface ∧ u' = u)
theorem rcv_ret : Rcv .returning .nilIface .returning := fun c₀ cs h => .inr ⟨by simp [recoverD, h], rfl, rfl⟩
theorem rcv_pan (v : Value) : Rcv (.panicking [⟨v, false, false⟩]) v (.panicking [⟨v, true, false⟩]) := fun c₀ cs h => .inl (by simp [recoverD, h])

def endD (K : St → Prop) : AE → St → Prop
  | .n, s => K s
  | .r, s => K s
  | _, _ => False
theorem endD_n {K : St → Prop} {s : St} (h : K s) : endD K .n s := h
theorem endD_r {K : St → Prop} {s : St} (h : K s) : endD K .r s := h

/-- A deferred closure: it asks for what is recovered, and goes on. -/
theorem dfr_run {P : Program} {S : Tab} (hS : TabOK P S) {f : Nat} {fn : Func} {rid d ntf : Nat} {ac : AC} (hf : P.funcs[f]? = some fn) (hcf : cFun P fn = some (.seq (.reg rid [⟨some d, none, .rcv⟩]) ac, [])) (hnt : fn.ntmps = ntf) {u u' : FrameMode} {rv : Value} (hu : Rcv u rv u')
    {σ : Cf} {h1 : Hp} {vals : List Value} {ys : List AV} {cnt : Nat} {K : St → Prop} (hgl : Gl σ) (hI : HInv σ h1) (hal : ∀ m, σ.al m → m.2 ≤ cnt) (hv : RepL σ ys vals) (hn : ys.length ≤ ntf)
    (h : awp (Ctx.fd P S ntf σ.w.heap.size) ac (endD fun s => lk s.env (dk ntf) = .gd false (.tup []) ∧ K s) ⟨(d, .v rv) :: (dk ntf, .gd false (.tup [])) :: envOf 0 ys, h1, cnt⟩) :
    CallsDIn Fence.wide 0 P f vals.toArray u σ.w fun e u2 w' => ∃ v τ s, e = .returned v ∧ u2 = u' ∧ τ.w = w' ∧ Evo σ τ ∧ HInv τ s.hp ∧ (∀ m, τ.al m → m.2 ≤ s.cnt) ∧ K s := by
  subst hnt
  unfold cFun at hcf
  split at hcf
  · rename_i b hbd
    split at hcf
    · rename_i c' r' g1 g2
      simp only [Option.some.injEq, Prod.mk.injEq] at hcf
      obtain ⟨rfl, rfl⟩ := hcf
      have hlen := repL_len hv
      have hres : fn.results.toList = [] := by
        cases hl : fn.results.toList with
        | nil => rfl
        | cons x xs => rw [hl] at g2; simp only [cRes] at g2; split at g2 <;> simp at g2
      cases b with
      | seq b1 b2 =>
        simp only [cCode] at g1
        split at g1
        · rename_i x' y' hx hy
          simp only [Option.some.injEq, AC.seq.injEq] at g1
          obtain ⟨rfl, rfl⟩ := g1
          cases b1 with
          | region id ops' dr =>
            simp only [cCode] at hx
            obtain ⟨o, cl, rfl, rfl, r1, r2, r3, r4, hd⟩ := cReg_rcv hx
            refine callsDIn_of_wpSIn hf hbd trivial fun c₀ cs hc₀ => ?_
            refine wpSIn_seq (wpSIn_region ?_)
            have hrun : (execOp ({ tmps := vals.toArray ++ Array.replicate (fn.ntmps - vals.toArray.size) undef, defers := [] } : Act).eval o).run P σ.w = .ok .recover σ.w := by
              simp [execOp, r1, r2, resolve, invoke, builtin]
            have hw : Region.wanted o (yielded #[o] (vals.toArray ++ Array.replicate (fn.ntmps - vals.toArray.size) undef)) = true := by
              unfold Region.wanted; rw [r4]
            have key : ∀ cs', cs' = { c₀ with mode := u' } :: cs → (b2.wpSIn Fence.wide 0 P (bodyPostS P fn c₀ cs fun e u2 w' => ∃ v τ s, e = .returned v ∧ u2 = u' ∧ τ.w = w' ∧ Evo σ τ ∧ HInv τ s.hp ∧ (∀ m, τ.al m → m.2 ≤ s.cnt) ∧ K s))
                (({ tmps := vals.toArray ++ Array.replicate (fn.ntmps - vals.toArray.size) undef, defers := [] } : Act).put o.dst rv) cs' σ.w := by
              rintro cs' rfl
              refine wpSIn_of_wpIn rfl ?_
              have hput : (({ tmps := vals.toArray ++ Array.replicate (fn.ntmps - vals.toArray.size) undef, defers := [] } : Act).put o.dst rv).defers = [] := by rw [Act.defers_put]
              have hb := h b2 hy σ (({ tmps := vals.toArray ++ Array.replicate (fn.ntmps - vals.toArray.size) undef, defers := [] } : Act).put o.dst rv) ⟨⟨hI, ?_, ?_, ?_⟩, hal, trivial⟩
              · refine wpIn_mono hb ?_
                rintro e a' w' ⟨τ, s', e', rfl, ev, h3, h4, h5⟩
                have fin : (lk s'.env (dk fn.ntmps) = .gd false (.tup []) ∧ K s') → bodyPostS P fn c₀ cs (fun e u2 w' => ∃ v τ s, e = .returned v ∧ u2 = u' ∧ τ.w = w' ∧ Evo σ τ ∧ HInv τ s.hp ∧ (∀ m, τ.al m → m.2 ≤ s.cnt) ∧ K s) .ret a' ({ c₀ with mode := u' } :: cs) τ.w := by
                  rintro ⟨hk0, hk⟩
                  obtain ⟨ms, dd, q1, _, _, q4⟩ := h3.1.df.sp
                  have e1 := q4.2.2.2 rfl
                  have e2 := q4.2.1 rfl hk0
                  subst e1 e2
                  have hr := results_run (P := P) (fn := fn) (tmps := a'.tmps) (w := τ.w) (vs := []) (by rw [hres]; rfl)
                  exact ⟨q1, u', rfl, _, hr, _, τ, s', rfl, rfl, rfl, ev, h3.1.h, h3.2.1, hk⟩
                cases e with
                | normal => simp [AE.of] at h4; subst h4; exact fin h5
                | ret => simp [AE.of] at h4; subst h4; exact fin h5
                | exit i => simp [AE.of] at h4; subst h4; exact h5.elim
                | goto l => simp [AE.of] at h4
                | panic c => obtain ⟨v, rfl, rfl⟩ := AE.of_panic h4; exact h5.elim
                | outgrown => simp [AE.of] at h4
              · rw [r3]
                refine TInv.put (d := some d) (env := (dk fn.ntmps, .gd false (.tup [])) :: envOf 0 ys) (r := .v rv) (fun t => ?_) (fun k hk => by cases hk; simp; omega) (by simp [Rep])
                simp only [lk]
                by_cases ht : dk fn.ntmps = t
                · rw [if_pos ht]
                  subst ht
                  have h2 : ¬ dk fn.ntmps < (vals.toArray ++ Array.replicate (fn.ntmps - vals.toArray.size) undef).size := by
                    simp only [Array.size_append, Array.size_replicate, List.size_toArray]
                    unfold dk; omega
                  have : (vals.toArray ++ Array.replicate (fn.ntmps - vals.toArray.size) undef).getD (dk fn.ntmps) undef = undef := by simp only [Array.getD, h2, dif_neg, not_false_eq_true]
                  rw [this]
                  simp [Rep]
                · rw [if_neg ht, envOf_lk]
                  split
                  · rename_i ht
                    simp only [Nat.zero_le, Nat.zero_add, true_and] at ht
                    have hg : ys[t]? = some ys[t] := List.getElem?_eq_getElem ht
                    obtain ⟨x, g1, g2⟩ := repL_get hv t _ hg
                    have e1 : ys.getD (t - 0) .un = ys[t] := by simp [ht]
                    have hlt' : t < vals.length := by omega
                    have e2 : (vals.toArray ++ Array.replicate (fn.ntmps - vals.toArray.size) undef).getD t undef = x := by
                      rw [List.getElem?_eq_getElem hlt'] at g1
                      simp at g1
                      simp [Array.getD_eq_getD_getElem?, Array.getElem?_append_left, hlt', g1]
                    rw [e1, e2]; exact g2
                  · simp [Rep]
              · rw [Act.size_put]; show (vals.toArray ++ Array.replicate (fn.ntmps - vals.toArray.size) undef).size = fn.ntmps
                simp; omega
              · rw [Act.defers_put]
                exact ⟨⟨[], [], rfl, by simp, .nil, fun _ => rfl, fun _ _ => rfl, fun _ f' ys' h => (by
                  have ek : lk ((d, AV.v rv) :: (dk fn.ntmps, AV.gd false (.tup [])) :: envOf 0 ys) (dk fn.ntmps) = .gd false (.tup []) := (lk_dk hd).trans (by simp only [lk, if_true])
                  have h' := ek.symm.trans h
                  cases h'), fun _ => rfl⟩, Nat.le_refl _, hgl⟩
            show wpOpsSIn Fence.wide 0 P #[o] _ [0] _ _ _
            have ho : (#[o] : Array Oper)[0]? = some o := rfl
            simp only [wpOpsSIn, ho, hrun]
            refine ⟨fun f _ => trivial, ?_⟩
            rw [if_pos hw]
            rcases hu c₀ cs hc₀ with hr | ⟨hr, rfl, rfl⟩
            · simp only [hr]
              exact key _ rfl
            · simp only [hr]
              exact key _ (by rw [← hc₀])
          | seq x y => simp only [cCode] at hx; split at hx <;> simp at hx
          | cond c x y => simp only [cCode] at hx; split at hx <;> simp at hx
          | rangeFunc f ps x y => simp only [cCode] at hx; split at hx <;> simp at hx
          | _ => simp [cCode] at hx
        · simp at g1
      | region id ops' d' =>
        simp only [cCode] at g1
        obtain ⟨_, _, ⟨_, e⟩ | ⟨_, _, _, _, e⟩⟩ := cReg_inv g1 <;> cases e
      | cond c x y => simp only [cCode] at g1; split at g1 <;> simp at g1
      | rangeFunc f ps x y => simp only [cCode] at g1; split at g1 <;> simp at g1
      | _ => simp [cCode] at g1
    · simp at hcf
  · simp at hcf
/-- The deferred closure's run: from this state on, rv recovered, it ends so. -/
def clRun (P : Program) (S : Tab) (fc : Nat) (ys : List AV) (rv : Value) (hp : Hp) (cnt : Nat) (K : St → Prop) : Prop :=
  ∃ fn rid d ntf ac, P.funcs[fc]? = some fn ∧ cFun P fn = some (.seq (.reg rid [⟨some d, none, .rcv⟩]) ac, []) ∧ fn.ntmps = ntf ∧ ys.length ≤ ntf ∧ okF P fc ∧
    ∀ hb, awp (Ctx.fd P S ntf hb) ac (endD fun s => lk s.env (dk ntf) = .gd false (.tup []) ∧ K s) ⟨(d, .v rv) :: (dk ntf, .gd false (.tup [])) :: envOf 0 ys, hp, cnt⟩
/-- At the end of a function that may have deferred a closure. -/
def fdK (P : Program) (S : Tab) (nt : Nat) (rvs : List RV) (r : AV) : AE → St → Prop
  | .n, s => (lk s.env (dk nt) = .gd false (.tup []) ∧ retOK rvs r s) ∨ ∃ fc ys, lk s.env (dk nt) = .gd false (.clo (.func fc) [] ys) ∧ clRun P S fc ys .nilIface s.hp s.cnt fun s' => retOK rvs r ⟨s.env, s'.hp, s'.cnt⟩
  | .r, s => (lk s.env (dk nt) = .gd false (.tup []) ∧ retOK rvs r s) ∨ ∃ fc ys, lk s.env (dk nt) = .gd false (.clo (.func fc) [] ys) ∧ clRun P S fc ys .nilIface s.hp s.cnt fun s' => retOK rvs r ⟨s.env, s'.hp, s'.cnt⟩
  | .p v, s => ∃ fc ys, lk s.env (dk nt) = .gd false (.clo (.func fc) [] ys) ∧ clRun P S fc ys v s.hp s.cnt fun s' => retOK rvs r ⟨s.env, s'.hp, s'.cnt⟩
  | .x _, _ => False

theorem pcall_fd {P : Program} {S : Tab} (hS : TabOK P S) {f : Nat} {fn : Func} {c : AC} {rvs : List RV} {args : List AV} {r : AV} (nt : Nat) (hf : P.funcs[f]? = some fn) (hc : cFun P fn = some (c, rvs)) (hnt : fn.ntmps = nt)
    (hn : args.length ≤ nt) (h : ∀ hb, awp (Ctx.fd P S nt hb) c (fdK P S nt rvs r) ⟨(dk nt, .gd false (.tup [])) :: envOf 0 args, [], 0⟩) : PCall P f args r := by
  subst hnt
  unfold cFun at hc
  split at hc
  rotate_left
  · simp at hc
  rename_i b hbd
  split at hc
  rotate_left
  · simp at hc
  rename_i c' r' hcc hr
  simp only [Option.some.injEq, Prod.mk.injEq] at hc
  obtain ⟨rfl, rfl⟩ := hc
  intro σ vs hgl hlt hp hx
  have hlen := repL_len hx
  let τ := σ.fresh
  have hgt : Gl τ := fun b j hj => ⟨⟨fun h => h, by rintro (h | h); exact (hgl b j hj).1.1 h; exact (hgl b j hj).1.2.1 h, (hgl b j hj).1.2.2⟩, (hgl b j hj).2⟩
  have hx' : RepL τ args vs := RepL.ofPure (σ := σ) (σ' := τ) (fun b hb => ⟨fun h => h, by rintro (h | h); exact hb.1 h; exact hb.2.1 h, hb.2.2⟩) (fun _ _ => rfl) args vs hp hx
  have hkey : ∀ x, lk ((dk fn.ntmps, x) :: envOf 0 args) (dk fn.ntmps) = x := fun x => by simp only [lk, if_true]
  have hI : Inv τ ((dk fn.ntmps, .gd false (.tup [])) :: envOf 0 args) [] { tmps := vs.toArray ++ Array.replicate (fn.ntmps - vs.toArray.size) undef, defers := [] } fn.ntmps (σ.w.heap.size, true) := by
    refine ⟨⟨fun n => rfl, fun n j c h => by simp [hl] at h, fun n sz live rows d h => by simp [hl] at h, ?_, fun b h => h.elim, hlt, fun b h => h.elim⟩, fun t => ?_, by simp; omega, ⟨⟨[], [], rfl, by simp, .nil, fun _ => rfl, fun _ _ => rfl, fun _ f' ys' h => (by rw [hkey] at h; cases h), fun _ => rfl⟩, Nat.le_refl _, hgt⟩⟩
    · rintro p q b (⟨_, _, j, c, h⟩ | ⟨_, ⟨_, _, _, h⟩, _⟩) _ <;> simp [hl] at h
    · simp only [lk]
      by_cases ht : dk fn.ntmps = t
      · rw [if_pos ht]
        subst ht
        have h2 : ¬ dk fn.ntmps < (vs.toArray ++ Array.replicate (fn.ntmps - vs.toArray.size) undef).size := by
          simp only [Array.size_append, Array.size_replicate, List.size_toArray]
          unfold dk; omega
        have : (vs.toArray ++ Array.replicate (fn.ntmps - vs.toArray.size) undef).getD (dk fn.ntmps) undef = undef := by simp only [Array.getD, h2, dif_neg, not_false_eq_true]
        rw [this]
        simp [Rep]
      · rw [if_neg ht, envOf_lk]
        split
        · rename_i ht
          simp only [Nat.zero_le, Nat.zero_add, true_and] at ht
          have hg : args[t]? = some args[t] := List.getElem?_eq_getElem ht
          obtain ⟨x, g1, g2⟩ := repL_get hx' t _ hg
          have e1 : args.getD (t - 0) .un = args[t] := by simp [ht]
          have hlt' : t < vs.length := by omega
          have e2 : (vs.toArray ++ Array.replicate (fn.ntmps - vs.toArray.size) undef).getD t undef = x := by
            rw [List.getElem?_eq_getElem hlt'] at g1
            simp at g1
            simp [Array.getD_eq_getD_getElem?, Array.getElem?_append_left, hlt', g1]
          rw [e1, e2]; exact g2
        · simp [Rep]
  have hw := h σ.w.heap.size b hcc τ _ ⟨hI, fun m hm => hm.elim, trivial⟩
  refine callsIn_wide.1 (callsIn_of_wp_marks (n := 0) hf hbd trivial (wpIn_mono hw ?_))
  rintro e a' w' ⟨σ', s', e', rfl, h2, h3, h4, h5⟩
  have h2 : Evo τ σ' := h2
  -- the results, read at the end
  have fin : ∀ (ρ0 : Cf) (hp' : Hp) (cnt' : Nat), Evo τ ρ0 → HInv ρ0 hp' → TInv ρ0 s'.env a' → retOK r' r ⟨s'.env, hp', cnt'⟩ → LeavesInM Fence.wide 0 P fn a'.tmps (fun e w' => ∃ v', e = .returned v' ∧ (∀ (b : Nat) (o : Obj), σ.w.heap[b]? = some o → w'.heap[b]? = some o) ∧ SameO σ.w w' ∧ pureA r = true ∧ Rep (σ.at w') r v') [] .returning ρ0.w := by
    rintro ρ0 hp' cnt' ev hh ht ⟨vc, xs, g1, g2, g3, g4, g5⟩
    have hI' : Inv ρ0 s'.env hp' { a' with defers := [] } fn.ntmps (σ.w.heap.size, false) := ⟨hh, ht, h3.1.sz, DOK.nil ev.sz (hgt.mono ev)⟩
    obtain ⟨us, k1, k2⟩ := exRVs_sound (s := ⟨s'.env, hp', cnt'⟩) hI' hr g1 g2
    refine ⟨_, results_run k1, _, rfl, fun b o hb => (ev.fro b o hb (fun h => h)).1, ev.io, g5, ?_⟩
    have hone : Rep ρ0 (one xs) (if h : us.toArray.size = 1 then us.toArray[0] else .tuple us.toArray) := by
      have hl' := repL_len k2
      unfold one
      split
      · rename_i x
        simp only [RepL] at k2
        obtain ⟨y, ys, rfl, e2, rfl⟩ := k2
        simpa using e2
      · rename_i hno
        have hne : us.toArray.size ≠ 1 := by
          intro h1
          simp at h1
          rw [h1] at hl'
          cases xs with
          | nil => simp at hl'
          | cons x xs => cases xs with
            | nil => exact hno x rfl
            | cons _ _ => simp at hl'
        rw [dif_neg hne]
        simp only [Rep]
        exact ⟨us, rfl, k2⟩
    let ρ : Cf := { ρ0 with M := fun _ => False }
    have e : Evo ρ0 ρ := ⟨fun _ h => ⟨h, rfl⟩, fun _ _ l h => ⟨l, h, Nat.le_refl _, fun _ => rfl⟩, fun _ _ h _ => ⟨h, fun h => h⟩, rfl, Nat.le_refl _, SameO.refl _⟩
    have h6 := res_still (τ := ρ) hI'.h e rfl (fun _ h => h) _ _ g3 hone
    have h7 := wk_sound _ _ _ g4 h6
    refine Rep.ofPure (σ := ρ) (σ' := σ.at ρ0.w) (fun b hb => ?_) (fun _ _ => rfl) r _ g5 h7
    have hO : ρ.O = τ.O := ev.out
    have hb1 := hb.2.1
    rw [hO] at hb1
    exact ⟨fun h => hb1 (.inl h), fun h => hb1 (.inr h), hb.2.2⟩
  obtain ⟨ms, dd, q1, _, _, q4⟩ := h3.1.df.sp
  have hms := q4.2.2.2 rfl
  subst hms
  rw [List.nil_append] at q1
  -- the closure
  have clo : ∀ (u : FrameMode) (rv : Value) (u' : FrameMode) (fc : Nat) (ys : List AV), u ≠ .run → Rcv u rv u' → settle u' = .returning → lk s'.env (dk fn.ntmps) = .gd false (.clo (.func fc) [] ys) →
      clRun P S fc ys rv s'.hp s'.cnt (fun t => retOK r' r ⟨s'.env, t.hp, t.cnt⟩) → LeavesInM Fence.wide 0 P fn a'.tmps (fun e w' => ∃ v', e = .returned v' ∧ (∀ (b : Nat) (o : Obj), σ.w.heap[b]? = some o → w'.heap[b]? = some o) ∧ SameO σ.w w' ∧ pureA r = true ∧ Rep (σ.at w') r v') a'.defers u σ'.w := by
    rintro u rv u' fc ys hrun hu hset hk ⟨fnc, rid, d, ntf, ac, z1, z2, z3, z4, z5, z6⟩
    obtain ⟨vals, y1, y2⟩ := q4.2.2.1 rfl fc ys hk
    rw [q1, y2]
    refine ⟨hrun, .inr ⟨fun h => by simp [Fence.wide] at h, .func fc, vals.toArray, fc, vals.toArray, rfl, ?_, fun _ _ => trivial, ?_⟩⟩
    · simp only [invoke]
      have := run_call z5 (#[] ++ vals.toArray) σ'.w
      simpa using this
    · refine (dfr_run hS z1 z2 z3 hu h3.1.df.gl h3.1.h h3.2.1 y1 z4 (z6 _)).mono ?_
      rintro e u2 w2 ⟨v, τ2, t, rfl, rfl, rfl, ev2, hh2, hal2, hk2⟩
      show LeavesInM _ _ _ _ _ _ [] (settle u2) _
      rw [hset]
      exact fin τ2 t.hp t.cnt (h2.trans ev2) hh2 (h3.1.t.mono ev2) hk2
  have done : ((lk s'.env (dk fn.ntmps) = .gd false (.tup []) ∧ retOK r' r s') ∨ ∃ fc ys, lk s'.env (dk fn.ntmps) = .gd false (.clo (.func fc) [] ys) ∧ clRun P S fc ys .nilIface s'.hp s'.cnt fun t => retOK r' r ⟨s'.env, t.hp, t.cnt⟩) → LeavesInM Fence.wide 0 P fn a'.tmps (fun e w' => ∃ v', e = .returned v' ∧ (∀ (b : Nat) (o : Obj), σ.w.heap[b]? = some o → w'.heap[b]? = some o) ∧ SameO σ.w w' ∧ pureA r = true ∧ Rep (σ.at w') r v') a'.defers .returning σ'.w := by
    rintro (⟨k0, k1⟩ | ⟨fc, ys, k0, k1⟩)
    · have hdd := q4.2.1 rfl k0
      rw [q1, hdd]
      exact fin σ' s'.hp s'.cnt h2 h3.1.h h3.1.t k1
    · exact clo .returning .nilIface .returning fc ys (by simp) rcv_ret rfl k0 k1
  cases e with
  | normal => simp [AE.of] at h4; subst h4; exact done h5
  | ret => simp [AE.of] at h4; subst h4; exact done h5
  | exit i => simp [AE.of] at h4; subst h4; exact h5.elim
  | goto l => simp [AE.of] at h4
  | panic c =>
    obtain ⟨v, rfl, rfl⟩ := AE.of_panic h4
    obtain ⟨fc, ys, k0, k1⟩ := h5
    exact clo (.panicking [⟨v, false, false⟩]) v (.panicking [⟨v, true, false⟩]) fc ys (by simp) (rcv_pan v) rfl k0 k1
  | outgrown => simp [AE.of] at h4
end Go.Proofs.YtdabfcbelkjmgaaDoor.Am
