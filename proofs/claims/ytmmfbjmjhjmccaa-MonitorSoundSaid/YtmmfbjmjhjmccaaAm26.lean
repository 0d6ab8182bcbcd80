/-
  The abstract machine, part 26: one round of a range over a function.
-/
import Derived.Test.YtmmfbjmjhjmccaaAm25
namespace Go.Proofs.Ytmmfbjmjhjmccaa.Am
set_option linter.unusedSimpArgs false
set_option linter.unusedVariables false
open Go

def Ctx.rd (P : Program) (S : Tab) (nt l : Nat) : Ctx := { P := P, F := Fence.wide.inRound l, S := S, nt := nt, hb := 0, R := Evo, G := fun _ _ => True, ofE := id, tr := Evo.trans, g := fun _ _ _ => trivial }
theorem Ctx.rd_ok {P : Program} {S : Tab} {nt l : Nat} (h : TabOK P S) : (Ctx.rd P S nt l).OK := ⟨h, .inr ⟨l, Eq.refl _⟩⟩

/-- The parameters of a round. -/
def putps : List Nat → List AV → Env → Env
  | p :: ps, x :: xs, e => putps ps xs ((p, x) :: e)
  | _, _, e => e

def asgK (Γ : Ctx) (b : AC) (Q : AE → St → Prop) : AE → St → Prop
  | .n, s => awp Γ b Q s
  | _, _ => False

def rngK {X : Type} (e : Env) (I : X → Hp × Nat) (Pre : X → Prop) (K : X → Nat) (j : Nat) (Q : AE → St → Prop) : AE → St → Prop
  | .n, s => ∃ x, Pre x ∧ K x = j ∧ Le ⟨e, (I x).1, (I x).2⟩ ⟨e, s.hp, s.cnt⟩
  | .x i, s => Q (.x i) ⟨e, s.hp, s.cnt⟩
  | .r, s => Q .r ⟨e, s.hp, s.cnt⟩

theorem tinv_putps {σ : Cf} : ∀ {ps : List Nat} {args : List AV} {vals : List Value} {e : Env} {tmps : Array Value} {d d' : List Deferred}, TInv σ e { tmps := tmps, defers := d } → RepL σ args vals → args.length = ps.length → (∀ p ∈ ps, p < tmps.size) →
    TInv σ (putps ps args e) { tmps := (ps.zip vals).foldl (fun t (p, v) => t.setIfInBounds p v) tmps, defers := d' } ∧ ((ps.zip vals).foldl (fun t (p, v) => t.setIfInBounds p v) tmps).size = tmps.size
  | [], args, vals, e, tmps, d, d', h, hr, hl, hp => by
    cases args with
    | nil => simp only [putps, List.zip_nil_left, List.foldl_nil]; exact ⟨h, trivial⟩
    | cons _ _ => simp at hl
  | p :: ps, args, vals, e, tmps, d, d', h, hr, hl, hp => by
    cases args with
    | nil => simp at hl
    | cons x xs =>
      simp only [RepL] at hr
      obtain ⟨v, vs, rfl, h1, h2⟩ := hr
      simp only [putps, List.zip_cons_cons, List.foldl_cons]
      have hk : TInv σ ((p, x) :: e) { tmps := tmps.setIfInBounds p v, defers := d } := by
        have := TInv.put (d := some p) (v := v) (r := x) h (fun k hk => by cases hk; exact hp p (by simp)) h1
        simpa [putE, Act.put] using this
      have := tinv_putps (d' := d') hk h2 (by simpa using hl) (fun q hq => by simp; exact hp q (by simp [hq]))
      refine ⟨this.1, by rw [this.2]; simp⟩

section
variable {P : Program} {S : Tab} {nt hbo : Nat} {φ : RFix} {X : Type} {I : X → Hp × Nat} {Pre : X → Prop} {K : X → Nat} {Q : AE → St → Prop}

theorem RJ.rnd {ps : Array Nat} {assign body : Code} {fn : FuncId} {asg bdy : AC} {xs : List (List AV)} (hlp : φ.lp = fun st pe => { state := st, pending := pe, fn := fn, tmps := φ.a.tmps, params := ps, assign := assign, body := body, defers := φ.D })
    (hca : cCode P nt assign = some asg) (hcb : cCode P nt body = some bdy) (hps : ∀ p ∈ ps.toList, p < nt) (hpure : ∀ args ∈ xs, pureL args = true ∧ args.length = ps.toList.length)
    (hround : ∀ x, Pre x → ∀ args, xs[K x]? = some args → awp (Ctx.rd P S nt φ.l) asg (asgK (Ctx.rd P S nt φ.l) bdy (rngK φ.e I Pre K (K x + 1) Q)) ⟨putps ps.toList args φ.e, (I x).1, (I x).2⟩)
    (hls : φ.ss.w.heap.size ≤ φ.l) (hDd : ∃ d ∈ φ.a.defers, d = { target := .collected φ.D, args := #[] })
    {k : Nat} {args : List AV} {si : Cf} {hpi : Hp} {vals : List Value} (h : RJ (Ctx.fn P S nt hbo) φ I Pre K Q k si) (hi : HInv si hpi) (hxs : xs[k]? = some args) (hv : RepL si args vals) :
    ∃ f tmps assign body, (Instr.yield φ.l vals.toArray).run P si.w = .ok (.round φ.l f tmps assign body) si.w ∧ RoundIn Fence.wide 0 P φ.l f tmps assign body si.w fun e w' => ∃ (b : Bool) (σ' : Cf), e = .returned (.bool b) ∧ σ'.w = w' ∧ Oth si σ' ∧ (∀ (b : Nat) (o : Obj), ¬ si.O b → si.w.heap[b]? = some o → σ'.w.heap[b]? = some o ∧ ¬ σ'.O b) ∧ RJ (Ctx.fn P S nt hbo) φ I Pre K Q (if b = true then k + 1 else -1) σ' := by
  obtain ⟨so, hp, cnt, st, pe, h1, h2, h3, h4, h8, h5, h6, h7⟩ := h
  rcases h7 with ⟨x, hx, hk, rfl, rfl, rfl, rfl⟩ | ⟨hk, _⟩
  · have hk : K x = k := by omega
    obtain ⟨hpu, hlen⟩ := hpure args (List.mem_of_getElem? hxs)
    have hvl := repL_len hv
    have hDM : ¬ so.M φ.D := by
      obtain ⟨d, hd, rfl⟩ := hDd
      obtain ⟨r, r1, _, _, r4, _⟩ := h3.df.all _ hd
      have : φ.D = r := by simpa using r1
      rw [this]; exact r4
    have hdis : ∀ b, so.O b → b < so.w.heap.size ∧ ¬ so.M b := fun b hb => ⟨h3.h.ou b hb, fun hM => h3.h.dis b hM hb⟩
    -- yield's arguments
    have hv' : RepL so args vals := RepL.ofPure (σ := si) (σ' := so) (fun b hb => ⟨fun hm => hb.2.1 ((h1.oi b).2 (.inl hm)), fun ho => by
      rcases (h1.oo b).1 ho with g | g
      · exact hb.2.1 ((h1.oi b).2 (.inr (.inl g)))
      · exact hb.1 g.1, by rw [h1.w]; exact hb.2.2⟩) (fun _ _ => by rw [h1.w]) args vals hpu hv
    have hy := run_yield (P := P) (args := vals.toArray) (w := si.w) (l := φ.l) (by rw [← h1.w]; exact h5) (by rw [hlp]; simp at hlen ⊢; omega)
    rw [hlp] at hy
    refine ⟨_, _, _, _, hy, ?_⟩
    have hT := tinv_putps (d' := []) (σ := so) (ps := ps.toList) (args := args) (vals := vals) (e := φ.e) (tmps := φ.a.tmps) (d := φ.a.defers) h3.t hv' hlen (fun p hp => by rw [h3.sz]; exact hps p hp)
    have hfold : (ps.zip vals.toArray).foldl (fun t (p, v) => t.setIfInBounds p v) φ.a.tmps = (ps.toList.zip vals).foldl (fun t (p, v) => t.setIfInBounds p v) φ.a.tmps := by
      rw [← Array.foldl_toList]; simp
    refine roundIn_of_wpIn (F := Fence.wide) trivial ?_
    rw [hfold, ← h1.w]
    have ha := hround x hx args (by rw [hk]; exact hxs) assign hca so { tmps := _, defers := [] } ⟨⟨h3.h, hT.1, by rw [hT.2]; exact h3.sz, DOK.nil (Nat.zero_le _)⟩, h4, trivial⟩
    refine wpIn_mono ha ?_
    rintro e a1 w1 ⟨s1, t1, e', rfl, ev1, at1, he, hq⟩
    have ev1 : Evo so s1 := ev1
    cases e with
    | normal =>
      simp [AE.of] at he; subst he
      obtain ⟨b1, b2⟩ := ev1.fro _ _ h5 h8
      have dis1 : ∀ b, s1.O b → b < s1.w.heap.size ∧ ¬ s1.M b := fun b hb => ⟨at1.1.h.ou b hb, fun hM => at1.1.h.dis b hM hb⟩
      obtain ⟨s2, hs2, o2, r2, l2, _⟩ := put_loop (r' := { φ.lp .ready none with state := .busy }) dis1 b2 b1
      have m2 : ¬ s2.M φ.l := by rw [o2.M]; exact b2
      refine ⟨s2.w, ?_, ?_⟩
      · rw [hs2]
        exact run_beginRound b1 (by rw [hlp])
      have hb := hq body hcb s2 a1 ⟨⟨at1.1.h.oth o2, at1.1.t.ev o2.ev, at1.1.sz, at1.1.df.rd r2 b1⟩, fun m hm => at1.2.1 m (by rw [o2.al] at hm; exact hm), trivial⟩
      refine wpIn_mono hb ?_
      rintro e a3 w3 ⟨s3, t3, e', rfl, ev3, at3, he, hq3⟩
      have ev3 : Evo s2 s3 := ev3
      obtain ⟨c1, c2⟩ := ev3.fro _ _ l2 m2
      have dis3 : ∀ b, s3.O b → b < s3.w.heap.size ∧ ¬ s3.M b := fun b hb => ⟨at3.1.h.ou b hb, fun hM => at3.1.h.dis b hM hb⟩
      -- the end of the round, by whatever way
      have fin : ∀ (jump : Option Code) (k' : Int) (τ : Cf) (hp4 : Hp) (cnt4 : Nat), Evo s3 τ → τ.w = s3.w → HInv τ hp4 → (∀ m, τ.al m → m.2 ≤ cnt4) →
          ((∃ x, Pre x ∧ (K x : Int) = k' ∧ (if jump.isNone then LoopState.ready else .done) = .ready ∧ jump = none ∧ hp4 = (I x).1 ∧ cnt4 = (I x).2) ∨ (k' = -1 ∧ ∃ c e', (if jump.isNone then LoopState.ready else .done) = .done ∧ jump = some c ∧ jumpOf c e' ∧ Q e' ⟨φ.e, hp4, cnt4⟩)) →
          ∃ v w4, (Instr.endRound φ.l jump).run P s3.w = .ok v w4 ∧ v = .bool jump.isNone ∧ ∃ σ' : Cf, σ'.w = w4 ∧ Oth si σ' ∧ (∀ (b : Nat) (o : Obj), ¬ si.O b → si.w.heap[b]? = some o → σ'.w.heap[b]? = some o ∧ ¬ σ'.O b) ∧ RJ (Ctx.fn P S nt hbo) φ I Pre K Q k' σ' := by
        intro jump k' τ hp4 cnt4 eτ wτ hτ alτ h7'
        obtain ⟨q1, q2⟩ := eτ.fro _ _ c1 c2
        have disτ : ∀ b, τ.O b → b < τ.w.heap.size ∧ ¬ τ.M b := fun b hb => ⟨hτ.ou b hb, fun hM => hτ.dis b hM hb⟩
        obtain ⟨s4, hs4, o4, r4, l4, _⟩ := put_loop (r' := φ.lp (if jump.isNone then LoopState.ready else .done) jump) disτ q2 q1
        refine ⟨_, s4.w, ?_, rfl, ?_⟩
        · rw [hs4, wτ]
          have := run_endRound (P := P) jump c1
          rw [hlp] at this ⊢
          exact this
        · obtain ⟨si', y1, y2, y3, y4⟩ := rd_fin (Γ := Ctx.fn P S nt hbo) (K := K) (Pre := Pre) (I := I) (Q := Q) h1 h2 h3 h8 h5 h6 hDM hi hls ((ev1.rd.trans r2).trans ((ev3.rd.trans eτ.rd).trans r4)) (hτ.oth o4) (by rw [o4.M]; exact q2) l4 (fun m hm => alτ m (by rw [o4.al] at hm; exact hm)) h7'
          exact ⟨si', y1, y2, y3, y4⟩
      cases e with
      | normal =>
        simp [AE.of] at he; subst he
        obtain ⟨x', p1, p2, p3⟩ := hq3
        have hA : At (Ctx.fn P S nt 0) s3 ⟨φ.e, t3.hp, t3.cnt⟩ φ.a := ⟨⟨at3.1.h, h3.t.ev (((ev1.rd.trans r2).trans ev3.rd).ev c2 h5), h3.sz, DOK.rd ⟨fun d hd => by obtain ⟨r, r1, _, r3⟩ := h3.df.all d hd; exact ⟨r, r1, Nat.zero_le _, r3⟩, h3.df.nd, Nat.zero_le _⟩ ((ev1.rd.trans r2).trans ev3.rd) h5⟩, at3.2.1, trivial⟩
        obtain ⟨τ, w1, e1, a1'⟩ := hA.le p3
        obtain ⟨v, w4, g1, rfl, σ', g3, g4, g5, g6⟩ := fin none (k + 1) τ _ _ e1 w1 a1'.1.h a1'.2.1 (.inl ⟨x', p1, by omega, rfl, rfl, rfl, rfl⟩)
        exact ⟨_, w4, g1, true, σ', rfl, g3, g4, fun b o hb ho => g5 b o hb (by rw [← h1.w]; exact ho), by simpa using g6⟩
      | ret =>
        simp [AE.of] at he; subst he
        obtain ⟨v, w4, g1, rfl, σ', g3, g4, g5, g6⟩ := fin (some .ret) (-1) s3 _ _ (Evo.refl s3) rfl at3.1.h at3.2.1 (.inr ⟨rfl, _, .r, rfl, rfl, .inl ⟨rfl, rfl⟩, hq3⟩)
        exact ⟨_, w4, g1, false, σ', rfl, g3, g4, fun b o hb ho => g5 b o hb (by rw [← h1.w]; exact ho), by simpa using g6⟩
      | exit i =>
        simp [AE.of] at he; subst he
        obtain ⟨v, w4, g1, rfl, σ', g3, g4, g5, g6⟩ := fin (some (.exit i)) (-1) s3 _ _ (Evo.refl s3) rfl at3.1.h at3.2.1 (.inr ⟨rfl, _, .x i, rfl, rfl, .inr ⟨i, rfl, rfl⟩, hq3⟩)
        exact ⟨_, w4, g1, false, σ', rfl, g3, g4, fun b o hb ho => g5 b o hb (by rw [← h1.w]; exact ho), by simpa using g6⟩
      | goto l => simp [AE.of] at he
      | panic c => simp [AE.of] at he
      | outgrown => simp [AE.of] at he
    | exit i => simp [AE.of] at he; subst he; exact hq.elim
    | ret => simp [AE.of] at he; subst he; exact hq.elim
    | goto l => simp [AE.of] at he
    | panic c => simp [AE.of] at he
    | outgrown => simp [AE.of] at he
  · omega
end
end Go.Proofs.Ytmmfbjmjhjmccaa.Am
