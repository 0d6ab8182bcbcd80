/-
  The abstract machine, A16.
-/
import Derived.Test.YtdabfcbelkjmgaaDoorA15
import Derived.Test.YtdabfcbelkjmgaaDoorK1
/-
  The abstract machine: a strings.Builder, as memory of others whose bytes the environment keeps.
-/
namespace Go.Proofs.YtdabfcbelkjmgaaDoor.Am
set_option linter.unusedSimpArgs false
set_option linter.unusedVariables false
open Go

/-- Where the builder is kept: beyond all temporaries. -/
def bk : Nat := 1500000
@[reducible] def gB (b : Nat) (l : List UInt8) : AV := .gd false (.agg [.v (.int .i64 b), .v (.string (sB l))])
theorem gB_inj {b b' : Nat} {l l' : List UInt8} (h : gB b l = gB b' l') : b = b' ∧ l = l' := by
  unfold gB at h
  injection h with _ h
  injection h with h
  injection h with h1 h2
  injection h1 with h1
  injection h1 with _ h1
  injection h2 with h2 _
  injection h2 with h2
  injection h2 with h2
  refine ⟨by omega, ?_⟩
  have := congrArg bL h2
  simpa using this

/-- The builder in block b, with its row, is memory of others; it is new, or lies where one may write. -/
structure BI (N : Nat) (X : Nat → Prop) (σ : Cf) (b : Nat) (l : List UInt8) : Prop where
  kb : ∃ T, BT T ∧ KB T σ.w b l
  o : σ.O b ∧ ¬ σ.M b ∧ (N ≤ b ∨ X b)
  r : ∀ g, rowOf σ.w b = some g → σ.O g ∧ ¬ σ.M g ∧ (N ≤ g ∨ X g)

theorem KB.lt {T : TypeId} {w : World} {b : Nat} {l : List UInt8} (h : KB T w b l) : b < w.heap.size := by
  rcases h with h | h <;> exact h.lt
theorem KB.cells {T : TypeId} {w : World} {b : Nat} {l : List UInt8} (h : KB T w b l) : ∃ p v, w.heap[b]? = some (.cells #[p, v] T (0, 0)) ∧ rowOf w b = v.ownBlock ∧ ∀ g, v.ownBlock = some g → g < w.heap.size ∧ ∃ cs U f, w.heap[g]? = some (.cells cs U f) := by
  have key : ∀ p, Lib.BuilderAt T 5 0 b p (Lib.byteCells l) w → ∃ p v, w.heap[b]? = some (.cells #[p, v] T (0, 0)) ∧ rowOf w b = v.ownBlock ∧ ∀ g, v.ownBlock = some g → g < w.heap.size ∧ ∃ cs U f, w.heap[g]? = some (.cells cs U f) := by
    rintro p ⟨_, v, hb, hown, _⟩
    refine ⟨p, v, hb, kb_row hb, fun g hg => ⟨(hown.lt g hg).2, ?_⟩⟩
    rcases hown.2 with ⟨rfl, _⟩ | ⟨g', cap, cur, rfl, _, hgg, _⟩
    · simp [Value.ownBlock] at hg
    · simp [Value.ownBlock] at hg
      subst hg
      exact ⟨_, _, _, hgg⟩
  rcases h with h | h <;> exact key _ h
theorem KB.ne_row {T : TypeId} {w : World} {b : Nat} {l : List UInt8} (h : KB T w b l) : ¬ rowOf w b = some b := by
  have key : ∀ p, Lib.BuilderAt T 5 0 b p (Lib.byteCells l) w → ¬ rowOf w b = some b := by
    rintro p ⟨h0, v, h1, h2, h3⟩ h
    rw [kb_row h1] at h
    exact h3 h
  rcases h with h | h <;> exact key _ h
theorem KB.keep {T : TypeId} {w w' : World} {b : Nat} {l : List UInt8} (h : KB T w b l) (hb : w'.heap[b]? = w.heap[b]?) (hg : ∀ g, rowOf w b = some g → w'.heap[g]? = w.heap[g]?) : KB T w' b l ∧ rowOf w' b = rowOf w b := by
  have key : ∀ p, Lib.BuilderAt T 5 0 b p (Lib.byteCells l) w → Lib.BuilderAt T 5 0 b p (Lib.byteCells l) w' ∧ rowOf w' b = rowOf w b := by
    rintro p ⟨h0, v, h1, h2, h3⟩
    have e := kb_row h1
    refine ⟨⟨h0, v, hb.trans h1, ⟨h2.1, ?_⟩, h3⟩, by rw [kb_row h1, kb_row (hb.trans h1)]⟩
    rcases h2.2 with h4 | ⟨g, cap, cur, rfl, q1, q2, q3⟩
    · exact .inl h4
    · refine .inr ⟨g, cap, cur, rfl, q1, ?_, q3⟩
      rw [hg g e]
      exact q2
  rcases h with h | h
  · exact ⟨.inl (key _ h).1, (key _ h).2⟩
  · exact ⟨.inr (key _ h).1, (key _ h).2⟩

theorem BI.mono {N : Nat} {X : Nat → Prop} {σ σ' : Cf} {b : Nat} {l : List UInt8} (h : BI N X σ b l) (e : Evo σ σ') : BI N X σ' b l := by
  obtain ⟨⟨T, hT, hk⟩, o, r⟩ := h
  have hb : ∀ x, x < σ.w.heap.size → ¬ σ.M x → σ'.w.heap[x]? = σ.w.heap[x]? ∧ ¬ σ'.M x := fun x hx hM => by
    obtain ⟨g1, g2⟩ := e.fro x _ (Array.getElem?_eq_getElem hx) hM
    exact ⟨g1.trans (Array.getElem?_eq_getElem hx).symm, g2⟩
  obtain ⟨p, v, c1, c2, c3⟩ := hk.cells
  obtain ⟨k1, k2⟩ := hk.keep (w' := σ'.w) (hb b hk.lt o.2.1).1 fun g hg => (hb g (c3 g (c2 ▸ hg)).1 (r g hg).2.1).1
  refine ⟨⟨T, hT, k1⟩, ⟨by rw [e.out]; exact o.1, (hb b hk.lt o.2.1).2, o.2.2⟩, fun g hg => ?_⟩
  rw [k2] at hg
  exact ⟨by rw [e.out]; exact (r g hg).1, (hb g (c3 g (c2 ▸ hg)).1 (r g hg).2.1).2, (r g hg).2.2⟩

/-- The way from one memory to another, on which only new memory turns, and where one may write. -/
structure EvoB (N : Nat) (X : Nat → Prop) (σ σ' : Cf) : Prop where
  ev : Ev σ σ'
  old : ∀ x, x < N → ¬ X x → ∀ o, σ.w.heap[x]? = some o → ¬ σ.M x → σ'.w.heap[x]? = some o ∧ ¬ σ'.M x
  out : ∀ x, σ.O x → σ'.O x
  sz : σ.w.heap.size ≤ σ'.w.heap.size
  io : SameO σ.w σ'.w
theorem Evo.evoB {N : Nat} {X : Nat → Prop} {σ σ' : Cf} (h : Evo σ σ') : EvoB N X σ σ' := ⟨h.ev, fun x _ _ o ho hM => h.fro x o ho hM, fun x hx => by rw [h.out]; exact hx, h.sz, h.io⟩
theorem EvoB.trans {N : Nat} {X : Nat → Prop} {a b c : Cf} (h : EvoB N X a b) (k : EvoB N X b c) : EvoB N X a c where
  ev := h.ev.trans k.ev
  old x hx h1 o ho hM := by
    obtain ⟨g1, g2⟩ := h.old x hx h1 o ho hM
    exact k.old x hx h1 o g1 g2
  out x hx := k.out x (h.out x hx)
  sz := Nat.le_trans h.sz k.sz
  io := h.io.trans k.io

/-- A function that makes a builder, or is given one. -/
def Ctx.bd (P : Program) (S : Tab) (nt hb N : Nat) (X : Nat → Prop) (hnt : nt ≤ bk) : Ctx := { P := P, F := Fence.wide, S := S, nt := nt, hb := (hb, false), R := EvoB N X, G := fun e σ => (N ≤ σ.w.heap.size) ∧ ∀ b l, lk e bk = gB b l → BI N X σ b l, ofE := Evo.evoB, tr := EvoB.trans, g := fun {σ σ' e e'} h ev hl => ⟨Nat.le_trans h.1 ev.sz, fun b l hb => by
    rcases hl bk hnt with h1 | h1
    · rw [h1] at hb; cases hb
    · exact (h.2 b l (h1.symm.trans hb)).mono ev⟩ }
theorem Ctx.bd_ok {P : Program} {S : Tab} {nt hb N : Nat} {X : Nat → Prop} {hnt : nt ≤ bk} (h : TabOK P S) : (Ctx.bd P S nt hb N X hnt).OK := ⟨h, .inl (Eq.refl _)⟩
theorem bd_S {P : Program} {S : Tab} {nt hb N : Nat} {X : Nat → Prop} {hnt : nt ≤ bk} : (Ctx.bd P S nt hb N X hnt).S = S := rfl

/-- An operation by which others do something. -/
def StepO (P : Program) (o : Oper) (a : Act) (w : World) (R : Value → World → Prop) : Prop :=
  (∃ v w', (execOp a.eval o).run P w = .ok (.value v) w' ∧ R v w') ∨ (∃ f args, (execOp a.eval o).run P w = .ok (.enter f args) w ∧ Calls P f args w fun e w' => ∃ v, e = .returned v ∧ R v w')

/-- The same, said of the way from here. -/
def Ctx.from (Γ : Ctx) (σ : Cf) : Ctx := { Γ with R := fun a b => Γ.R σ a → Γ.R σ b, ofE := fun e h => Γ.tr h (Γ.ofE e), tr := fun h k r => k (h r) }
theorem awp_oth {Γ : Ctx} (hΓ : Γ.OK) (hnb : Γ.hb.2 = false) {gk : Nat} (hgk : Γ.nt ≤ gk) (hgd : gk ≠ dk Γ.nt) (i : Nat) {rid : Nat} {ops : List AOp} {yo : AOp} {Q : AE → St → Prop} {e e1 : Env} {h h1 : Hp} {c : Nat} {vc : Prop}
    (hyo : ops[i]? = some yo) (hex : exops Γ.S (c + 1) (100 * rid) (ops.take i) e h = some (vc, e1, h1)) (hvc : vc) (hg : gval e1 yo.g = some true) (hnd : ∀ x, yo.k ≠ .dfr x) (hnb2 : yo.k ≠ .bad)
    (hst : ∀ (o : Oper) (a1 : Act) (σ1 : Cf), yo.k = cK Γ.P o.op → Inv σ1 e1 h1 a1 Γ.nt Γ.hb → Γ.G e1 σ1 → StepO Γ.P o a1 σ1.w fun v w' => ∃ (σ2 : Cf) (x r : AV) (vc2 : Prop) (e2 : Env) (h2 : Hp), σ2.w = w' ∧ Oth σ1 σ2 ∧
      (∀ (m : Nat), σ1.w.heap[m]? = some (.deferred (some [])) → ¬ σ1.O m → σ2.w.heap[m]? = some (.deferred (some [])) ∧ ¬ σ2.O m) ∧ Γ.R σ1 σ2 ∧ Γ.G ((gk, .gd false x) :: e1) σ2 ∧ Rep σ2 r v ∧
      exops Γ.S (c + 1) (100 * rid + (i + 1)) (ops.drop (i + 1)) (putE yo.d r ((gk, .gd false x) :: e1)) h1 = some (vc2, e2, h2) ∧ vc2 ∧ Q .n ⟨e2, h2, c + 1⟩) :
    awp Γ (.reg rid ops) Q ⟨e, h, c⟩ := by
  intro code hc σ a hA
  cases code with
  | region id ops' d =>
    simp only [cCode] at hc
    obtain ⟨l0, hx0, ⟨rfl, e0⟩ | ⟨_, _, _, _, e0⟩⟩ := cReg_inv hc
    · cases e0
      refine wpIn_region ?_
      obtain ⟨c1, c2⟩ := cOps_spec hx0
      obtain ⟨t1, t2⟩ := cOps_take i hx0
      obtain ⟨_, t3⟩ := cOps_take (i + 1) hx0
      have hi : i < ops.length := (List.getElem?_eq_some_iff.1 hyo).1
      have hsz : ops.length = ops'.size := c1.trans (by simp)
      have hi' : i < ops'.size := by omega
      have ho : ops'[i]? = some ops'[i] := Array.getElem?_eq_getElem hi'
      obtain ⟨yo', g1, g2⟩ := c2 i ops'[i] (by simp)
      rw [hyo] at g1
      cases g1
      obtain ⟨k1, k3, k4⟩ := cOp_k g2
      have hr : List.range ops'.size = List.range' 0 (ops'.toList.take i).length ++ (i :: List.range' (i + 1) (ops'.toList.drop (i + 1)).length) := by
        have e1 : (ops'.toList.take i).length = i := by simp; omega
        have e2 : (ops'.toList.drop (i + 1)).length = ops'.size - (i + 1) := by simp
        rw [e1, e2, List.range_eq_range', ← List.range'_succ]
        have := List.range'_append_1 (s := 0) (m := i) (n := ops'.size - (i + 1) + 1)
        rw [Nat.zero_add] at this
        rw [this]
        congr 1
        omega
      rw [hr]
      refine wpOps_pre hΓ (cnt := c) (100 * rid) e _ (ops'.toList.take i) 0 (ops.take i) σ e e1 h h1 a vc (fun _ _ => rfl) (fun j hj => ?_) t1 hex hvc hA.1 (fun m hm => .inl (hA.2.1 m hm)) fun a1 σ1 ev1 hI1 hal1 hfar1 => ?_
      · have : j < i := by simp at hj; omega
        simp [List.getElem?_take, this]
      rw [wpOpsIn_cons]
      unfold wpOpIn
      simp only [ho]
      have hw := gval_sound hI1.t k4 hg
      simp only [hw, if_true]
      refine ⟨fun f _ => hΓ.F.fn f, ?_⟩
      have hno : ∀ c, ops'[i].op ≠ .defer c := fun c hd => by
        rw [hd] at k1
        simp only [cK] at k1
        split at k1
        · exact hnd _ k1
        · exact hnb2 k1
      rw [Oper.semAt_eq _ a1.eval _ hno]
      have hG1 : Γ.G e1 σ1 := Γ.g hA.2.2 ev1 fun t ht => .inr (hfar1 t ht)
      have hd : ∀ k, ops'[i].dst = some k → k < a1.tmps.size := by
        rw [k3]; intro d hd
        rw [hI1.sz]; exact cOp_d g2 d hd
      have fin : ∀ v w', (∃ (σ2 : Cf) (x r : AV) (vc2 : Prop) (e2 : Env) (h2 : Hp), σ2.w = w' ∧ Oth σ1 σ2 ∧
          (∀ (m : Nat), σ1.w.heap[m]? = some (.deferred (some [])) → ¬ σ1.O m → σ2.w.heap[m]? = some (.deferred (some [])) ∧ ¬ σ2.O m) ∧ Γ.R σ1 σ2 ∧ Γ.G ((gk, .gd false x) :: e1) σ2 ∧ Rep σ2 r v ∧
          exops Γ.S (c + 1) (100 * rid + (i + 1)) (ops.drop (i + 1)) (putE yo.d r ((gk, .gd false x) :: e1)) h1 = some (vc2, e2, h2) ∧ vc2 ∧ Q .n ⟨e2, h2, c + 1⟩) →
          wpOpsIn Γ.F 0 Γ.P ops' (lift Γ σ Q) (List.range' (i + 1) (ops'.toList.drop (i + 1)).length) (a1.put ops'[i].dst v) w' := by
        rintro v w' ⟨σ2, x, r, vc2, e2, h2, rfl, oth, old, hR, hG2, hv, q1, q2, q3⟩
        have hI2 : Inv σ2 (putE yo.d r ((gk, .gd false x) :: e1)) h1 (a1.put ops'[i].dst v) Γ.nt Γ.hb := by
          refine ⟨hI1.h.oth oth, ?_, by rw [Act.size_put]; exact hI1.sz, ?_⟩
          · rw [← k3]
            refine TInv.put (r := r) (fun t => ?_) hd hv
            simp only [lk]
            by_cases ht : gk = t
            · rw [if_pos ht]
              subst ht
              have : ¬ gk < a1.tmps.size := by rw [hI1.sz]; exact Nat.not_lt.2 hgk
              simp [Rep, Array.getD, this]
            · rw [if_neg ht]; exact hI1.t.ev oth.ev t
          · rw [Act.defers_put]
            refine DOK.of hnb (fun d hd => ?_) (hI1.df.nd hnb) (Nat.le_trans hI1.df.le oth.sz) (hI1.df.gl.ev oth.ev)
            obtain ⟨m, r1, r2, r3, r4, r5⟩ := hI1.df.all hnb d hd
            obtain ⟨o1, o2⟩ := old m r3 r5
            exact ⟨m, r1, r2, o1, by rw [oth.M]; exact r4, o2⟩
        have hal2 : ∀ m, σ2.al m → m.2 ≤ c ∨ (m.2 = c + 1 ∧ m.1 < 100 * rid + (i + 1)) := by
          intro m hm
          rw [oth.al] at hm
          rcases hal1 m hm with h | ⟨h3, h4⟩
          · exact .inl h
          · right; simp at h4; omega
        have hR2 : Γ.R σ σ2 := Γ.tr (Γ.ofE ev1) hR
        have hl : lift (Γ.from σ) σ2 Q = lift Γ σ Q := by
          funext e a w
          apply propext
          constructor
          · rintro ⟨σ', s', e', h1, h2, h3⟩
            exact ⟨σ', s', e', h1, h2 hR2, h3⟩
          · rintro ⟨σ', s', e', h1, h2, h3⟩
            exact ⟨σ', s', e', h1, fun _ => h2, h3⟩
        have hh := wpOps_seq (Γ := Γ.from σ) ⟨hΓ.S, hΓ.F⟩ (ops := ops') (Q := Q) (cnt := c) (100 * rid) _ σ2 hG2 (ops'.toList.drop (i + 1)) (i + 1) (ops.drop (i + 1)) σ2 _ _ _ _ _ vc2 (fun t ht => lk_putE (cOp_d g2) ht) (fun j => by simp) (by simp; omega) t3 q1 q2 (Evo.refl σ2) hI2 hal2 q3
        rw [hl] at hh
        exact hh
      rcases hst ops'[i] a1 σ1 k1 hI1 hG1 with ⟨v, w', hr, hR⟩ | ⟨f, args, hr, hcl⟩
      · rw [hr]
        exact fin v w' hR
      · rw [hr]
        refine ⟨fun h => by simp [hΓ.F.depth] at h, hΓ.F.calls (hcl.mono ?_)⟩
        rintro en w' ⟨v, rfl, hR⟩
        exact fin v w' hR
    · cases e0
  | seq x y => simp only [cCode] at hc; split at hc <;> simp at hc
  | cond c x y => simp only [cCode] at hc; split at hc <;> simp at hc
  | rangeFunc f ps x y => simp only [cCode] at hc; split at hc <;> simp at hc
  | _ => simp [cCode] at hc

theorem cK_allocB {P : Program} {op : Op} {T : TypeId} (h : AK.allocB T = cK P op) : op = .alloc T ∧ ∃ zs, cZero P T = some zs ∧ isBz zs = true := by
  cases op with
  | alloc t =>
    simp only [cK] at h
    split at h
    · rename_i zs hz
      split at h
      · rename_i hb
        simp only [AK.allocB.injEq] at h
        subst h
        exact ⟨rfl, zs, hz, hb⟩
      · cases h
    · cases h
  | _ =>
    exfalso
    simp only [cK, cBuild, cBin, cStr, cIfc, cPtr, cCall] at h
    (repeat' (split at h)) <;> cases h
theorem cK_call {P : Program} {op : Op} {f : Nat} {ys : List Opd} (h : AK.call f ys = cK P op) : ∃ c, op = .call c ∧ c.callee = .value (.func f) ∧ ys = c.args.toList.map opd := by
  cases op with
  | call c =>
    simp only [cK, cCall] at h
    split at h
    · rename_i g hc
      simp only [AK.call.injEq] at h
      obtain ⟨rfl, rfl⟩ := h
      exact ⟨c, rfl, hc, rfl⟩
    all_goals (repeat' (split at h)) <;> cases h
  | _ =>
    exfalso
    simp only [cK, cBuild, cBin, cStr, cIfc, cPtr] at h
    (repeat' (split at h)) <;> cases h
theorem ofC_slice {v : Value} {sz : Nat} {f : Bool} {d : List AV} (h : ofC v = .sl sz f [] d) : v = .slice none 0 0 := by
  unfold ofC at h
  split at h
  · rfl
  · cases h
theorem ofC_v {v x : Value} (h : ofC v = .v x) : v = x := by
  unfold ofC at h
  split at h
  · cases h
  · injection h

/-- A new builder. -/
theorem awp_newB {P : Program} {S : Tab} {nt hb N : Nat} {X : Nat → Prop} {hnt : nt ≤ bk} (hS : TabOK P S) (i : Nat) {rid : Nat} {ops : List AOp} {Q : AE → St → Prop} {e e1 : Env} {h h1 : Hp} {c : Nat} {vc : Prop} {d : Option Nat} {T : TypeId}
    (hyo : ops[i]? = some ⟨d, none, .allocB T⟩) (hT : BT T) (hex : exops S (c + 1) (100 * rid) (ops.take i) e h = some (vc, e1, h1)) (hvc : vc)
    (hQ : ∀ b : Nat, ∃ (vc2 : Prop) (e2 : Env) (h2 : Hp), exops S (c + 1) (100 * rid + (i + 1)) (ops.drop (i + 1)) (putE d (.v (.pointer (some ⟨b, 0, none⟩))) ((bk, gB b []) :: e1)) h1 = some (vc2, e2, h2) ∧ vc2 ∧ Q .n ⟨e2, h2, c + 1⟩) :
    awp (Ctx.bd P S nt hb N X hnt) (.reg rid ops) Q ⟨e, h, c⟩ := by
  refine awp_oth (Ctx.bd_ok hS) (Eq.refl _) (gk := bk) hnt (fun e => ?_) i hyo hex hvc (Eq.refl _) (fun x e => by cases e) (fun e => by cases e) fun o a1 σ1 hk hI hG => ?_
  · have e' : bk = nt + 2000000 := e
    unfold bk at e'
    omega
  obtain ⟨ho, zs, hz, hb⟩ := cK_allocB hk
  obtain ⟨j, z, z1, z2, z3, _, rfl⟩ := cZero_spec hz
  have hcells : z.cells = #[.pointer none, .slice none 0 0] := by
    unfold isBz at hb
    split at hb
    · rename_i sz f d he
      have hl : z.cells.toList.length = 2 := by have := congrArg List.length he; simpa using this
      match hzc : z.cells.toList, hl with
      | [x, y], _ =>
        rw [hzc] at he
        simp only [List.map_cons, List.map_nil, List.cons.injEq, and_true] at he
        apply Array.ext'
        rw [hzc, ofC_v he.1, ofC_slice he.2]
    · cases hb
  refine .inl ⟨.pointer (some ⟨σ1.w.heap.size, 0, none⟩), σ1.w.alloc (.cells z.cells T), ?_, ?_⟩
  · simp [execOp, ho, Instr.alloc, zeroValue, typeInfo, z1, z2, newVar, newRow, newObj, Sem.run]
  obtain ⟨vc2, e2, h2, q1, q2, q3⟩ := hQ σ1.w.heap.size
  let σ2 : Cf := { σ1 with O := fun x => σ1.O x ∨ x = σ1.w.heap.size, w := σ1.w.alloc (.cells z.cells T) }
  have hold : ∀ x, x < σ1.w.heap.size → σ2.w.heap[x]? = σ1.w.heap[x]? := fun x hx => heap_alloc_lt hx
  have hnew : σ2.w.heap[σ1.w.heap.size]? = some (.cells #[.pointer none, .slice none 0 0] T (0, 0)) := by rw [← hcells]; exact heap_alloc_new
  have hsz : σ2.w.heap.size = σ1.w.heap.size + 1 := by simp [σ2]
  have oth : Oth σ1 σ2 := {
    rb := rfl, ra := rfl, ln := rfl, al := rfl, M := rfl
    ou := by
      rintro x (hx | rfl)
      · exact ⟨by have := hI.h.ou x hx; omega, fun hM => hI.h.dis x hM hx, fun hf => hf.2.1 hx⟩
      · exact ⟨by omega, fun hM => absurd (hI.h.lt _ hM) (Nat.lt_irrefl _), fun hf => absurd hf.2.2 (Nat.lt_irrefl _)⟩
    sz := by omega
    mem := fun x hx => hold x (hI.h.lt x hx)
    fro := fun x o y hx hc => by rw [cell_of_heap (hold x hx.2.2)]; exact hc
    io := ⟨rfl, rfl⟩ }
  refine ⟨σ2, .agg [.v (.int .i64 σ1.w.heap.size), .v (.string (sB []))], .v (.pointer (some ⟨σ1.w.heap.size, 0, none⟩)), vc2, e2, h2, rfl, oth, ?_, ?_, ?_, by simp [Rep], q1, q2, q3⟩
  · intro m hm hO
    have hlt := (Array.getElem?_eq_some_iff.1 hm).1
    exact ⟨(hold m hlt).trans hm, fun h => h.elim hO (fun e => absurd hlt (by omega))⟩
  · refine ⟨oth.ev, fun x hx h1 o ho hM => ⟨(hold x (Array.getElem?_eq_some_iff.1 ho).1).trans ho, hM⟩, fun x hx => .inl hx, by omega, ⟨rfl, rfl⟩⟩
  · refine ⟨by have := hG.1; omega, fun b l hl => ?_⟩
    have hl' : gB σ1.w.heap.size [] = gB b l := by simpa [lk] using hl
    obtain ⟨rfl, rfl⟩ := gB_inj hl'
    refine ⟨⟨T, hT, .inl ⟨Nat.zero_le _, .slice none 0 0, hnew, World.ownsRow_nil _ _ _ _, by simp [Value.ownBlock]⟩⟩, ⟨.inr rfl, fun hM => absurd (hI.h.lt _ hM) (Nat.lt_irrefl _), .inl hG.1⟩, fun g hg => ?_⟩
    rw [kb_row hnew] at hg
    simp [Value.ownBlock] at hg

/-- A call that writes into the builder, or takes it apart. -/
def BCall (P : Program) (f : Nat) (ax : List AV) (l : List UInt8) (l' : Option (List UInt8)) (r : AV) : Prop :=
  ∀ (σ : Cf) (vs : List Value) (b : Nat), Gl σ → (∀ x, σ.M x ∨ σ.O x → x < σ.w.heap.size) → pureL ax = true → RepL σ ax vs → (∃ T, BT T ∧ KB T σ.w b l) → σ.O b ∧ ¬ σ.M b → (∀ g, rowOf σ.w b = some g → σ.O g ∧ ¬ σ.M g) →
    Calls P f (Value.pointer (some ⟨b, 0, none⟩) :: vs).toArray σ.w fun e w' => ∃ v, e = .returned v ∧ (∀ m, l' = some m → ∃ T, BT T ∧ KB T w' b m) ∧ KStep σ.w w' b ∧ Rep (σ.at w') r v
@[reducible] def gL (b : Nat) : Option (List UInt8) → AV
  | some l => .agg [.v (.int .i64 b), .v (.string (sB l))]
  | none => .un

/-- A call on the builder. -/
theorem awp_bcall {P : Program} {S : Tab} {nt hb N : Nat} {X : Nat → Prop} {hnt : nt ≤ bk} (hS : TabOK P S) (i : Nat) {rid : Nat} {ops : List AOp} {Q : AE → St → Prop} {e e1 : Env} {h h1 : Hp} {c : Nat} {vc : Prop} {d : Option Nat} {f b : Nat} {x0 : Opd} {xs : List Opd} {ax : List AV}
    {l : List UInt8} {l' : Option (List UInt8)} {r : AV} (hyo : ops[i]? = some ⟨d, none, .call f (x0 :: xs)⟩) (hf : okF P f) (hex : exops S (c + 1) (100 * rid) (ops.take i) e h = some (vc, e1, h1)) (hvc : vc) (hbk : lk e1 bk = gB b l)
    (hx0 : ung true (opv e1 x0) = .v (.pointer (some ⟨b, 0, none⟩))) (hxs : resL h1 (xs.map fun x => ung true (opv e1 x)) = ax) (hrv : rvcL h1 (xs.map fun x => ung true (opv e1 x))) (hpu : pureL ax = true) (hfl : flat r = true) (hC : BCall P f ax l l' r)
    {vc2 : Prop} {e2 : Env} {h2 : Hp} (hpost : exops S (c + 1) (100 * rid + (i + 1)) (ops.drop (i + 1)) (putE d r ((bk, .gd false (gL b l')) :: e1)) h1 = some (vc2, e2, h2)) (hvc2 : vc2) (hQ : Q .n ⟨e2, h2, c + 1⟩) :
    awp (Ctx.bd P S nt hb N X hnt) (.reg rid ops) Q ⟨e, h, c⟩ := by
  refine awp_oth (Ctx.bd_ok hS) (Eq.refl _) (gk := bk) hnt (fun e => ?_) i hyo hex hvc (Eq.refl _) (fun x e => by cases e) (fun e => by cases e) fun o a1 σ1 hk hI hG => ?_
  · have e' : bk = nt + 2000000 := e
    unfold bk at e'
    omega
  obtain ⟨cl, ho, hcl, hargs⟩ := cK_call hk
  have hV := args_rep (g := true) rfl hI.t cl.args.toList
  rw [← hargs] at hV
  simp only [List.map_cons, RepL] at hV
  obtain ⟨y, vs, hvs, hy, hV⟩ := hV
  have hy : Rep σ1 (ung true (opv e1 x0)) y := hy
  rw [hx0] at hy
  have hy : y = .pointer (some ⟨b, 0, none⟩) := hy
  subst hy
  obtain ⟨hkb, hbo, hbr⟩ := hG.2 b l hbk
  let τ : Cf := { σ1 with M := fun _ => False }
  have ev : Evo σ1 τ := ⟨fun _ h => ⟨h, rfl⟩, fun _ _ l h => ⟨l, h, Nat.le_refl _, fun _ => rfl⟩, fun _ _ h _ => ⟨h, fun h => h⟩, rfl, Nat.le_refl _, SameO.refl _⟩
  have hr := resL_still (τ := τ) hI.h ev rfl (fun _ h => h) _ vs hrv hV
  rw [hxs] at hr
  have hc := hC τ vs b (hI.df.gl.mono ev) (fun x hx => hx.elim False.elim (hI.h.ou x)) hpu hr hkb ⟨hbo.1, fun h => h⟩ fun g hg => ⟨(hbr g hg).1, fun h => h⟩
  obtain ⟨T, hT, hK⟩ := hkb
  obtain ⟨p, v0, b1, b2, b3⟩ := hK.cells
  refine .inr ⟨f, _, ?_, hc.mono ?_⟩
  · have hr := run_call hf (cl.args.map a1.eval) σ1.w
    have ha : cl.args.map a1.eval = (Value.pointer (some ⟨b, 0, none⟩) :: vs).toArray := by
      rw [← hvs]; apply Array.ext'; simp
    rw [ha] at hr
    simp only [execOp, ho, resolve, hcl, Act.eval, Sem.run_bind, Deferred.ofValue, Sem.run_pure, Result.andThen, invoke]
    first | exact hr | (simp [ha]; exact hr)
  rintro en w' ⟨v, rfl, g1, g2, g3⟩
  have g2 : KStep σ1.w w' b := g2
  refine ⟨v, rfl, ?_⟩
  let σ2 : Cf := { σ1 with O := fun x => σ1.O x ∨ (l' ≠ none ∧ rowOf w' b = some x), w := w' }
  have hrow : ∀ x, l' ≠ none → rowOf w' b = some x → (σ1.O x ∧ ¬ σ1.M x ∧ rowOf σ1.w b = some x ∨ σ1.w.heap.size ≤ x) ∧ x < w'.heap.size := by
    intro x hl hx
    refine ⟨?_, ?_⟩
    · rcases g2.row x hx with h | h
      · exact .inl ⟨(hbr x h).1, (hbr x h).2.1, h⟩
      · exact .inr h
    · cases l' with
      | none => exact absurd rfl hl
      | some m =>
        obtain ⟨T', _, hK'⟩ := g1 m rfl
        obtain ⟨p', v', c1, c2, c3⟩ := hK'.cells
        exact (c3 x (c2 ▸ hx)).1
  have hold : ∀ x, x < σ1.w.heap.size → x ≠ b → rowOf σ1.w b ≠ some x → w'.heap[x]? = σ1.w.heap[x]? := g2.old
  have holdM : ∀ x, x < σ1.w.heap.size → ¬ σ1.O x → w'.heap[x]? = σ1.w.heap[x]? := fun x hx hO => hold x hx (fun e => hO (e ▸ hbo.1)) fun e => hO (hbr x e).1
  have oth : Oth σ1 σ2 := {
    rb := rfl, ra := rfl, ln := rfl, al := rfl, M := rfl
    ou := by
      rintro x (hx | ⟨hl, hx⟩)
      · exact ⟨Nat.lt_of_lt_of_le (hI.h.ou x hx) g2.sz, fun hM => hI.h.dis x hM hx, fun hf => hf.2.1 hx⟩
      · obtain ⟨h1, h2⟩ := hrow x hl hx
        refine ⟨h2, fun hM => ?_, fun hf => ?_⟩
        · rcases h1 with h1 | h1
          · exact h1.2.1 hM
          · exact absurd (hI.h.lt x hM) (by omega)
        · rcases h1 with h1 | h1
          · exact hf.2.1 h1.1
          · exact absurd hf.2.2 (by omega)
    sz := g2.sz
    mem := fun x hx => holdM x (hI.h.lt x hx) fun hO => hI.h.dis x hx hO
    fro := fun x o y hx hc => by rw [show σ2.w.cell? ⟨x, o, none⟩ = σ1.w.cell? ⟨x, o, none⟩ from cell_of_heap (holdM x hx.2.2 hx.2.1) o]; exact hc
    io := g2.io }
  refine ⟨σ2, gL b l', r, vc2, e2, h2, rfl, oth, ?_, ?_, ?_, flat_rep' _ v hfl g3, hpost, hvc2, hQ⟩
  · intro m hm hO
    have hlt := (Array.getElem?_eq_some_iff.1 hm).1
    refine ⟨(holdM m hlt hO).trans hm, fun h => h.elim hO fun ⟨hl, hx⟩ => ?_⟩
    obtain ⟨h1 | h1, _⟩ := hrow m hl hx
    · exact hO h1.1
    · omega
  · refine ⟨oth.ev, fun x hx h1 o ho hM => ⟨(hold x (Array.getElem?_eq_some_iff.1 ho).1 (fun e => ?_) fun e => ?_).trans ho, hM⟩, fun x hx => .inl hx, g2.sz, g2.io⟩
    · subst e
      rcases hbo.2.2 with h | h
      · exact absurd hx (by omega)
      · exact h1 h
    · rcases (hbr x e).2.2 with h | h
      · exact absurd hx (by omega)
      · exact h1 h
  · refine ⟨Nat.le_trans hG.1 g2.sz, fun b' m hl => ?_⟩
    have hl1 : AV.gd false (gL b l') = gB b' m := by simpa [lk] using hl
    cases l' with
    | none => simp [gL, gB] at hl1
    | some m' =>
      have hl2 : gB b m' = gB b' m := hl1
      obtain ⟨rfl, rfl⟩ := gB_inj hl2
      refine ⟨g1 m' rfl, ⟨.inl hbo.1, hbo.2.1, hbo.2.2⟩, fun g hg => ?_⟩
      obtain ⟨h1, _⟩ := hrow g (by simp) hg
      refine ⟨.inr ⟨by simp, hg⟩, ?_, ?_⟩
      · rcases h1 with h1 | h1
        · exact h1.2.1
        · exact fun hM => absurd (hI.h.lt g hM) (by omega)
      · rcases h1 with h1 | h1
        · exact (hbr g h1.2.2).2.2
        · exact .inl (Nat.le_trans hG.1 h1)

theorem envOf_un {args : List AV} {nt t : Nat} (h : args.length ≤ nt) (ht : nt ≤ t) : lk (envOf 0 args) t = .un := by
  rw [envOf_lk, if_neg (by omega)]

/-- The frame at the start of a function. -/
theorem start_t {τ : Cf} {args : List AV} {vs : List Value} {nt : Nat} (hx : RepL τ args vs) (hn : args.length ≤ nt) : TInv τ (envOf 0 args) { tmps := vs.toArray ++ Array.replicate (nt - vs.toArray.size) undef, defers := [] } := fun t => by
  have hlen := repL_len hx
  rw [envOf_lk]
  split
  · rename_i ht
    simp only [Nat.zero_le, Nat.zero_add, true_and] at ht
    have hg : args[t]? = some args[t] := List.getElem?_eq_getElem ht
    obtain ⟨x, g1, g2⟩ := repL_get hx t _ hg
    have e1 : args.getD (t - 0) .un = args[t] := by simp [ht]
    have hlt' : t < vs.length := by omega
    have e2 : (vs.toArray ++ Array.replicate (nt - vs.toArray.size) undef).getD t undef = x := by
      rw [List.getElem?_eq_getElem hlt'] at g1
      simp at g1
      simp [Array.getD_eq_getD_getElem?, Array.getElem?_append_left, hlt', g1]
    rw [e1, e2]; exact g2
  · simp [Rep]

/-- The results, as the machine has them, and as the world has them. -/
theorem ret_rep {P : Program} {nt n : Nat} {fn : Func} {rvs : List RV} {r : AV} {s' : St} {a' : Act} {ρ0 τ : Cf} (hr : cRes P fn.results.toList = some rvs) (hI : Inv ρ0 s'.env s'.hp { a' with defers := [] } nt (n, false)) (h : retOK rvs r s') (hO : ∀ b, τ.M b ∨ τ.O b → ρ0.O b) :
    ∃ v', (results fn a'.tmps).run P ρ0.w = .ok v' ρ0.w ∧ pureA r = true ∧ Rep (τ.at ρ0.w) r v' := by
  obtain ⟨vc, xs, g1, g2, g3, g4, g5⟩ := h
  obtain ⟨us, k1, k2⟩ := exRVs_sound hI hr g1 g2
  refine ⟨_, results_run k1, g5, ?_⟩
  have hone : Rep ρ0 (one xs) (if h : us.toArray.size = 1 then us.toArray[0] else .tuple us.toArray) := by
    have hl' := repL_len k2
    unfold one
    split
    · rename_i x
      simp only [RepL] at k2
      obtain ⟨y, ys, rfl, e2, rfl⟩ := k2
      simpa using e2
    · rename_i hno
      have hne : us.toArray.size ≠ 1 := by
        intro h1
        simp at h1
        rw [h1] at hl'
        cases xs with
        | nil => simp at hl'
        | cons x xs => cases xs with
          | nil => exact hno x rfl
          | cons _ _ => simp at hl'
      rw [dif_neg hne]
      simp only [Rep]
      exact ⟨us, rfl, k2⟩
  let ρ : Cf := { ρ0 with M := fun _ => False }
  have e : Evo ρ0 ρ := ⟨fun _ h => ⟨h, rfl⟩, fun _ _ l h => ⟨l, h, Nat.le_refl _, fun _ => rfl⟩, fun _ _ h _ => ⟨h, fun h => h⟩, rfl, Nat.le_refl _, SameO.refl _⟩
  have h6 := res_still (τ := ρ) hI.h e rfl (fun _ h => h) _ _ g3 hone
  have h7 := wk_sound _ _ _ g4 h6
  refine Rep.ofPure (σ := ρ) (σ' := τ.at ρ0.w) (fun b hb => ?_) (fun _ _ => rfl) r _ g5 h7
  exact ⟨fun h => hb.2.1 (hO b (.inl h)), fun h => hb.2.1 (hO b (.inr h)), hb.2.2⟩

/-- A function that makes a builder, and takes it apart. -/
theorem pcall_bd {P : Program} {S : Tab} (hS : TabOK P S) {f : Nat} {fn : Func} {c : AC} {rvs : List RV} {args : List AV} {r : AV} (nt : Nat) (hf : P.funcs[f]? = some fn) (hc : cFun P fn = some (c, rvs)) (hnt : fn.ntmps = nt) (hbk : nt ≤ bk)
    (hn : args.length ≤ nt) (h : ∀ hb N, awp (Ctx.bd P S nt hb N (fun _ => False) hbk) c (endK rvs r) ⟨envOf 0 args, [], 0⟩) : PCall P f args r := by
  subst hnt
  unfold cFun at hc
  split at hc
  rotate_left
  · simp at hc
  rename_i b hbd
  split at hc
  rotate_left
  · simp at hc
  rename_i c' r' hcc hr
  simp only [Option.some.injEq, Prod.mk.injEq] at hc
  obtain ⟨rfl, rfl⟩ := hc
  intro σ vs hgl hlt hp hx
  have hlen := repL_len hx
  let τ := σ.fresh
  have hgt : Gl τ := fun b j hj => ⟨⟨fun h => h, by rintro (h | h); exact (hgl b j hj).1.1 h; exact (hgl b j hj).1.2.1 h, (hgl b j hj).1.2.2⟩, (hgl b j hj).2⟩
  have hx' : RepL τ args vs := RepL.ofPure (σ := σ) (σ' := τ) (fun b hb => ⟨fun h => h, by rintro (h | h); exact hb.1 h; exact hb.2.1 h, hb.2.2⟩) (fun _ _ => rfl) args vs hp hx
  have hI : Inv τ (envOf 0 args) [] { tmps := vs.toArray ++ Array.replicate (fn.ntmps - vs.toArray.size) undef, defers := [] } fn.ntmps (σ.w.heap.size, false) := by
    refine ⟨⟨fun n => rfl, fun n j c h => by simp [hl] at h, fun n sz live rows d h => by simp [hl] at h, ?_, fun b h => h.elim, hlt, fun b h => h.elim⟩, start_t hx' hn, by simp; omega, DOK.nil (Nat.le_refl _) hgt⟩
    rintro p q b (⟨_, _, j, c, h⟩ | ⟨_, ⟨_, _, _, h⟩, _⟩) _ <;> simp [hl] at h
  have hw := h σ.w.heap.size σ.w.heap.size b hcc τ _ ⟨hI, fun m hm => hm.elim, Nat.le_refl _, fun b l hl => by rw [envOf_un hn hbk] at hl; cases hl⟩
  refine callsIn_wide.1 (callsIn_of_wp_marks (n := 0) hf hbd trivial (wpIn_mono hw ?_))
  rintro e a' w' ⟨σ', s', e', rfl, h2, h3, h4, h5⟩
  have h2 : EvoB σ.w.heap.size (fun _ => False) τ σ' := h2
  have key : ∀ (s' : St), At (Ctx.bd P S fn.ntmps σ.w.heap.size σ.w.heap.size (fun _ => False) hbk) σ' s' a' → retOK r' r s' → LeavesInM Fence.wide 0 P fn a'.tmps (fun e w' => ∃ v', e = .returned v' ∧ (∀ (b : Nat) (o : Obj), σ.w.heap[b]? = some o → w'.heap[b]? = some o) ∧ SameO σ.w w' ∧ pureA r = true ∧ Rep (σ.at w') r v') a'.defers .returning σ'.w := by
    rintro s' hA hk
    refine leaves_marks a'.defers σ' (fun b hb => ⟨hA.1.h.ou b hb, fun hM => hA.1.h.dis b hM hb⟩) (DOK.of' hA.1.df) fun ρ0 ko kO kb => ?_
    have hI' : Inv ρ0 s'.env s'.hp { a' with defers := [] } fn.ntmps (σ.w.heap.size, false) := ⟨hA.1.h.oth ko, hA.1.t.ev ko.ev, hA.1.sz, DOK.nil (Nat.le_trans hA.1.df.le ko.sz) (hA.1.df.gl.ev ko.ev)⟩
    obtain ⟨v', k1, k2, k3⟩ := ret_rep (τ := σ) hr hI' hk fun b hb => by rw [kO]; exact h2.out b hb
    exact ⟨v', k1, _, rfl, fun b o hb => kb b o (.inl (Array.getElem?_eq_some_iff.1 hb).1) (h2.old b (Array.getElem?_eq_some_iff.1 hb).1 (fun h => h) o hb (fun h => h)).1, h2.io.trans ko.io, k2, k3⟩
  cases e with
  | normal => simp [AE.of] at h4; subst h4; exact key s' h3 h5
  | ret => simp [AE.of] at h4; subst h4; exact key s' h3 h5
  | exit i => simp [AE.of] at h4; subst h4; exact h5.elim
  | goto l => simp [AE.of] at h4
  | panic c => obtain ⟨v, rfl, rfl⟩ := AE.of_panic h4; exact h5.elim
  | outgrown => simp [AE.of] at h4

/-- At the end of a function that was given a builder. -/
def endB (b : Nat) (l' : List UInt8) (rvs : List RV) (r : AV) : AE → St → Prop
  | .n, s => lk s.env bk = gB b l' ∧ retOK rvs r s
  | .r, s => lk s.env bk = gB b l' ∧ retOK rvs r s
  | .x _, _ => False
  | .p _, _ => False
theorem endB_r {b : Nat} {l' : List UInt8} {rvs : List RV} {r : AV} {e : Env} {h : Hp} {c : Nat} {vc : Prop} {xs : List AV} (h0 : lk e bk = gB b l') (h1 : exRVs e h rvs = some (vc, xs)) (h2 : vc) (h3 : rvc h (one xs)) (h4 : wk (res h (one xs)) r) (h5 : pureA r = true) : endB b l' rvs r .r ⟨e, h, c⟩ := ⟨h0, vc, xs, h1, h2, h3, h4, h5⟩
theorem endB_n {b : Nat} {l' : List UInt8} {rvs : List RV} {r : AV} {e : Env} {h : Hp} {c : Nat} {vc : Prop} {xs : List AV} (h0 : lk e bk = gB b l') (h1 : exRVs e h rvs = some (vc, xs)) (h2 : vc) (h3 : rvc h (one xs)) (h4 : wk (res h (one xs)) r) (h5 : pureA r = true) : endB b l' rvs r .n ⟨e, h, c⟩ := ⟨h0, vc, xs, h1, h2, h3, h4, h5⟩

theorem bcall_fn {P : Program} {S : Tab} (hS : TabOK P S) {f : Nat} {fn : Func} {c : AC} {rvs : List RV} {args : List AV} {r : AV} {l l' : List UInt8} (nt : Nat) (hf : P.funcs[f]? = some fn) (hc : cFun P fn = some (c, rvs)) (hnt : fn.ntmps = nt) (hbk : nt ≤ bk)
    (hn : args.length + 1 ≤ nt) (h : ∀ hb N X b, awp (Ctx.bd P S nt hb N X hbk) c (endB b l' rvs r) ⟨(bk, gB b l) :: envOf 0 (.v (.pointer (some ⟨b, 0, none⟩)) :: args), [], 0⟩) : BCall P f args l (some l') r := by
  subst hnt
  unfold cFun at hc
  split at hc
  rotate_left
  · simp at hc
  rename_i code hbd
  split at hc
  rotate_left
  · simp at hc
  rename_i c' r' hcc hr
  simp only [Option.some.injEq, Prod.mk.injEq] at hc
  obtain ⟨rfl, rfl⟩ := hc
  intro σ vs b hgl hlt hp hx hK hbo hbr
  let τ := σ.fresh
  have hgt : Gl τ := fun b j hj => ⟨⟨fun h => h, by rintro (h | h); exact (hgl b j hj).1.1 h; exact (hgl b j hj).1.2.1 h, (hgl b j hj).1.2.2⟩, (hgl b j hj).2⟩
  have hx' : RepL τ args vs := RepL.ofPure (σ := σ) (σ' := τ) (fun b hb => ⟨fun h => h, by rintro (h | h); exact hb.1 h; exact hb.2.1 h, hb.2.2⟩) (fun _ _ => rfl) args vs hp hx
  have hx2 : RepL τ (.v (.pointer (some ⟨b, 0, none⟩)) :: args) (.pointer (some ⟨b, 0, none⟩) :: vs) := ⟨_, _, rfl, by simp [Rep], hx'⟩
  have hlen := repL_len hx2
  have hn2 : (AV.v (.pointer (some ⟨b, 0, none⟩)) :: args).length ≤ fn.ntmps := by simpa using hn
  have hst := start_t hx2 hn2
  have hsz : ((Value.pointer (some ⟨b, 0, none⟩) :: vs).toArray ++ Array.replicate (fn.ntmps - (Value.pointer (some ⟨b, 0, none⟩) :: vs).toArray.size) undef).size = fn.ntmps := by
    simp only [Array.size_append, Array.size_replicate, List.size_toArray]
    omega
  have hI : Inv τ ((bk, gB b l) :: envOf 0 (.v (.pointer (some ⟨b, 0, none⟩)) :: args)) [] { tmps := (Value.pointer (some ⟨b, 0, none⟩) :: vs).toArray ++ Array.replicate (fn.ntmps - (Value.pointer (some ⟨b, 0, none⟩) :: vs).toArray.size) undef, defers := [] } fn.ntmps (σ.w.heap.size, false) := by
    refine ⟨⟨fun n => rfl, fun n j c h => by simp [hl] at h, fun n sz live rows d h => by simp [hl] at h, ?_, fun b h => h.elim, hlt, fun b h => h.elim⟩, fun t => ?_, hsz, DOK.nil (Nat.le_refl _) hgt⟩
    · rintro p q b (⟨_, _, j, c, h⟩ | ⟨_, ⟨_, _, _, h⟩, _⟩) _ <;> simp [hl] at h
    · simp only [lk]
      by_cases ht : bk = t
      · rw [if_pos ht]
        subst ht
        have : ¬ bk < ((Value.pointer (some ⟨b, 0, none⟩) :: vs).toArray ++ Array.replicate (fn.ntmps - (Value.pointer (some ⟨b, 0, none⟩) :: vs).toArray.size) undef).size := by rw [hsz]; exact Nat.not_lt.2 hbk
        have h2 : ((Value.pointer (some ⟨b, 0, none⟩) :: vs).toArray ++ Array.replicate (fn.ntmps - (Value.pointer (some ⟨b, 0, none⟩) :: vs).toArray.size) undef).getD bk undef = undef := by simp only [Array.getD, this, dif_neg, not_false_eq_true]
        rw [h2]
        simp [Rep]
      · rw [if_neg ht]; exact hst t
  let X : Nat → Prop := fun x => x = b ∨ rowOf σ.w b = some x
  have hbi : BI σ.w.heap.size X τ b l := ⟨hK, ⟨.inr hbo.1, fun h => h, .inr (.inl rfl)⟩, fun g hg => ⟨.inr (hbr g hg).1, fun h => h, .inr (.inr hg)⟩⟩
  have hw := h σ.w.heap.size σ.w.heap.size X b code hcc τ _ ⟨hI, fun m hm => hm.elim, Nat.le_refl _, fun b' m hl => by
    have hl1 : gB b l = gB b' m := by simpa [lk] using hl
    obtain ⟨rfl, rfl⟩ := gB_inj hl1
    exact hbi⟩
  refine callsIn_wide.1 (callsIn_of_wp_marks (n := 0) hf hbd trivial (wpIn_mono hw ?_))
  rintro e a' w' ⟨σ', s', e', rfl, h2, h3, h4, h5⟩
  have h2 : EvoB σ.w.heap.size X τ σ' := h2
  have key : ∀ (s' : St), At (Ctx.bd P S fn.ntmps σ.w.heap.size σ.w.heap.size X hbk) σ' s' a' → lk s'.env bk = gB b l' ∧ retOK r' r s' → LeavesInM Fence.wide 0 P fn a'.tmps (fun e w' => ∃ v, e = .returned v ∧ (∀ m, some l' = some m → ∃ T, BT T ∧ KB T w' b m) ∧ KStep σ.w w' b ∧ Rep (σ.at w') r v) a'.defers .returning σ'.w := by
    rintro s' hA ⟨hgb, hk⟩
    obtain ⟨⟨T, hT, hk2⟩, o1, o2⟩ := hA.2.2.2 b l' hgb
    obtain ⟨p, v0, c1, c2, c3⟩ := hk2.cells
    refine leaves_marks a'.defers σ' (fun b hb => ⟨hA.1.h.ou b hb, fun hM => hA.1.h.dis b hM hb⟩) (DOK.of' hA.1.df) fun ρ0 ko kO kb => ?_
    have hI' : Inv ρ0 s'.env s'.hp { a' with defers := [] } fn.ntmps (σ.w.heap.size, false) := ⟨hA.1.h.oth ko, hA.1.t.ev ko.ev, hA.1.sz, DOK.nil (Nat.le_trans hA.1.df.le ko.sz) (hA.1.df.gl.ev ko.ev)⟩
    obtain ⟨v', k1, k2, k3⟩ := ret_rep (τ := σ) hr hI' hk fun b hb => by rw [kO]; exact h2.out b hb
    have hob : ∀ x, x < σ'.w.heap.size → σ'.O x → ρ0.w.heap[x]? = σ'.w.heap[x]? := fun x hx hO => (kb x _ (.inr hO) (Array.getElem?_eq_getElem hx)).trans (Array.getElem?_eq_getElem hx).symm
    obtain ⟨q1, q2⟩ := hk2.keep (w' := ρ0.w) (hob b hk2.lt o1.1) fun g hg => hob g (c3 g (c2 ▸ hg)).1 (o2 g hg).1
    refine ⟨v', k1, v', rfl, fun m hm => ?_, ⟨fun x hx h1 h3 => ?_, fun g hg => ?_, Nat.le_trans h2.sz ko.sz, h2.io.trans ko.io⟩, k3⟩
    · cases hm
      exact ⟨T, hT, q1⟩
    · have := h2.old x hx (fun h => h.elim h1 h3) _ (Array.getElem?_eq_getElem hx) (fun h => h)
      rw [kb x _ (.inl hx) this.1]
      exact (Array.getElem?_eq_getElem hx).symm
    · rw [q2] at hg
      rcases (o2 g hg).2.2 with h | h | h
      · exact .inr h
      · subst h
        exact absurd hg hk2.ne_row
      · exact .inl h
  cases e with
  | normal => simp [AE.of] at h4; subst h4; exact key s' h3 h5
  | ret => simp [AE.of] at h4; subst h4; exact key s' h3 h5
  | exit i => simp [AE.of] at h4; subst h4; exact h5.elim
  | goto l => simp [AE.of] at h4
  | panic c => obtain ⟨v, rfl, rfl⟩ := AE.of_panic h4; exact h5.elim
  | outgrown => simp [AE.of] at h4

/-- WriteString. -/
theorem bcall_write {l m : List UInt8} (hl : l.length + m.length ≤ 140737488355328) : BCall Tryd.prog 62 [.v (.string (sB m))] l (some (l ++ m)) (.tup [.i m.length, .v .nilIface]) := by
  intro σ vs b hgl hlt hp hx hK hbo hbr
  simp only [RepL, Rep] at hx
  obtain ⟨y, ys, rfl, rfl, rfl⟩ := hx
  obtain ⟨T, hT, hk⟩ := hK
  refine (kb_write hT b l m σ.w hk hl).mono ?_
  rintro e w' ⟨rfl, h1, h2⟩
  exact ⟨_, rfl, fun n hn => by cases hn; exact ⟨T, hT, h1⟩, h2, ⟨[_, _], rfl, _, _, rfl, by simp [Rep], _, _, rfl, by simp [Rep], rfl⟩⟩
/-- String. -/
theorem bcall_string {l : List UInt8} (hl : l ≠ []) : BCall Tryd.prog 43 [] l none (.v (.string (sB l))) := by
  intro σ vs b hgl hlt hp hx hK hbo hbr
  simp only [RepL] at hx
  subst hx
  obtain ⟨T, hT, hk⟩ := hK
  refine (kb_string b l σ.w hk hl).mono ?_
  rintro e w' ⟨rfl, h2⟩
  exact ⟨_, rfl, fun n hn => (by cases hn), h2, (by simp only [Rep, sB])⟩
attribute [go_sem] bk bd_S fd_S dk
end Go.Proofs.YtdabfcbelkjmgaaDoor.Am
