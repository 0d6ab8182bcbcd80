/-
  The abstract machine, part 27: the rule for a range over a function.
-/
import Derived.Test.YtmmfbjmjhjmccaaAm26
namespace Go.Proofs.Ytmmfbjmjhjmccaa.Am
set_option linter.unusedSimpArgs false
set_option linter.unusedVariables false
open Go

theorem beq_f (b : Bool) : (b == false) = !b := by cases b <;> rfl
theorem beq_t (b : Bool) : (b == true) = b := by cases b <;> rfl

section
variable {P : Program} {S : Tab} {nt hbo : Nat}

theorem awp_rfun {X : Type} (I : X → Hp × Nat) (Pre : X → Prop) (K : X → Nat) (x0 : X) {f : Opd} {ps : List Nat} {asg bdy : AC} {Q : AE → St → Prop} {e : Env} {h : Hp} {c fi : Nat} {fst cps : List AV} {xs : List (List AV)}
    (hx : ung true (opv e f) = .clo (.func fi) fst cps) (hit : ItC P fi fst cps xs) (hok : okF P fi) (hpu : pureL fst = true ∧ pureL cps = true) (hps : ∀ p ∈ ps, p < nt) (hpure : ∀ args ∈ xs, pureL args = true ∧ args.length = ps.length)
    (h0 : Pre x0) (hk0 : K x0 = 0) (hle : Le ⟨e, (I x0).1, (I x0).2⟩ ⟨e, h, c⟩)
    (round : ∀ l x, Pre x → ∀ args, xs[K x]? = some args → awp (Ctx.rd P S nt l) asg (asgK (Ctx.rd P S nt l) bdy (rngK e I Pre K (K x + 1) Q)) ⟨putps ps args e, (I x).1, (I x).2⟩)
    (hend : ∀ x, Pre x → K x = xs.length → Q .n ⟨e, (I x).1, (I x).2⟩) : awp (Ctx.fn P S nt hbo) (.rfun f ps asg bdy) Q ⟨e, h, c⟩ := by
  intro code hc σ a hA
  cases code with
  | rangeFunc g ps' assign body =>
    simp only [cCode] at hc
    split at hc
    · rename_i x' y' hca hcb
      simp at hc
      obtain ⟨rfl, rfl, rfl, rfl⟩ := hc
      obtain ⟨ss, w0, ev0, A0⟩ := hA.le hle
      rw [← w0]
      refine wpIn_mono (Q := lift (Ctx.fn P S nt hbo) ss Q) ?_ fun e a w k => k.mono (Ctx.ofE _ ev0)
      have hX := arg_rep (g := true) rfl A0.1.t g
      rw [hx] at hX
      simp only [Rep] at hX
      obtain ⟨fs, cs, hX, hf1, hc1⟩ := hX
      refine wpIn_rangeFunc (F := Fence.wide) fun fn _ => ?_
      let lp : LoopState → Option Code → Loop := fun st pe => { state := st, pending := pe, fn := fn, tmps := a.tmps, params := ps', assign := assign, body := body, defers := ss.w.heap.size }
      let W1 : World := (ss.w.alloc (.deferred (some []))).alloc (.loop (lp .ready none))
      have hL1 : W1.heap[ss.w.heap.size + 1]? = some (.loop (lp .ready none)) := by
        have := World.alloc_heap_new (ss.w.alloc (.deferred (some []))) (.loop (lp .ready none)); rwa [World.size_alloc] at this
      have hsz1 : W1.heap.size = ss.w.heap.size + 2 := by simp [W1]
      have hkeep : ∀ (b : Nat) (o : Obj), ss.w.heap[b]? = some o → W1.heap[b]? = some o := fun b o hb => by
        have hlt := (Array.getElem?_eq_some_iff.1 hb).1
        rw [heap_alloc_lt (by simp; omega), heap_alloc_lt hlt]; exact hb
      have hK1 : W1.heap[ss.w.heap.size]? = some (.deferred (some [])) := by
        rw [heap_alloc_lt (by simp)]; exact World.alloc_heap_new ss.w _
      let D := ss.w.heap.size
      let l := ss.w.heap.size + 1
      let a0 : Act := { a with defers := [{ target := .collected D, args := #[] }] ++ a.defers }
      let φ : RFix := { O0 := ss.O, l := l, D := D, ss := ss, e := e, a := a0, lp := lp }
      let so : Cf := ss.at W1
      have evs : Evo ss so := Evo.at hkeep ⟨rfl, rfl⟩
      let si : Cf := { rb := fun _ => 0, ra := fun _ => (none, 0), M := fun _ => False, O := fun b => ss.M b ∨ ss.O b ∨ b = l ∨ b = D, ln := fun _ => none, al := fun _ => False, w := W1 }
      have hdf : ∀ d ∈ φ.a.defers, ∃ r, d = { target := .collected r, args := #[] } ∧ (r < φ.ss.w.heap.size ∨ r = φ.D) := by
        intro d hd
        simp only [φ, a0, List.cons_append, List.nil_append, List.mem_cons] at hd
        rcases hd with rfl | hd
        · exact ⟨D, rfl, .inr rfl⟩
        · obtain ⟨r, r1, _, r3, _⟩ := A0.1.df.all d hd
          exact ⟨r, r1, .inl (Array.getElem?_eq_some_iff.1 r3).1⟩
      have nM : ∀ b, ss.w.heap.size ≤ b → ¬ ss.M b := fun b hb hm => by have := A0.1.h.lt b hm; omega
      have nO : ∀ b, ss.w.heap.size ≤ b → ¬ ss.O b := fun b hb hm => by have := A0.1.h.ou b hm; omega
      have hso : HInv so (I x0).1 := A0.1.h.at hkeep ⟨rfl, rfl⟩
      have hsi : HInv si [] := ⟨fun _ => rfl, fun n j c h => by simp [hl] at h, fun n sz live rows d h => by simp [hl] at h, by
        rintro p q b (⟨_, _, j, c, h⟩ | ⟨_, ⟨_, _, _, h⟩, _⟩) _ <;> simp [hl] at h, fun b h => h.elim, fun b hb => by
          show b < W1.heap.size
          rw [hsz1]
          rcases hb with hb | hb | rfl | rfl
          · have := A0.1.h.lt b hb; omega
          · have := A0.1.h.ou b hb; omega
          · simp only [l]; omega
          · simp only [D]; omega, fun b h => h.elim⟩
      have hJ0 : RJ (Ctx.fn P S nt hbo) φ I Pre K Q 0 si := by
        refine ⟨so, (I x0).1, (I x0).2, .ready, none, ⟨rfl, fun b => Iff.rfl, fun b => ⟨.inl, fun h => h.elim id fun h => h.1.elim⟩, fun b h => h.elim, hsi.ou⟩, ⟨evs.box, evs.arr, evs.fro, fun _ _ h => h.elim, evs.sz, evs.io⟩,
          ⟨hso, A0.1.t.mono evs, A0.1.sz, ⟨fun d hd => ?_, ?_, Nat.le_trans A0.1.df.le evs.sz⟩⟩, A0.2.1, nM _ (Nat.le_succ _), hL1, hK1, .inl ⟨x0, h0, by simp [hk0], rfl, rfl, rfl, rfl⟩⟩
        · simp only [φ, a0, List.cons_append, List.nil_append, List.mem_cons] at hd
          rcases hd with rfl | hd
          · exact ⟨D, rfl, A0.1.df.le, hK1, nM _ (Nat.le_refl _), nO _ (Nat.le_refl _)⟩
          · exact (A0.1.df.mono evs).all d hd
        · simp only [φ, a0, List.cons_append, List.nil_append]
          refine List.pairwise_cons.2 ⟨fun d hd he => ?_, A0.1.df.nd⟩
          obtain ⟨r, rfl, _, r3, _⟩ := A0.1.df.all d hd
          have : D = r := by simpa using he
          have := (Array.getElem?_eq_some_iff.1 r3).1
          omega
      have hR : Rng P Fence.wide l (ss.w.heap.size + 2) xs (RJ (Ctx.fn P S nt hbo) φ I Pre K Q) :=
        { evo := fun hj ev => hj.evo hdf ev
          oth := fun hj o hO hP => hj.oth (hb := ss.w.heap.size + 2) (by simp only [φ]; omega) hdf o hO hP
          rnd := fun hj hi hxs hv => RJ.rnd (φ := φ) (fn := fn) (ps := ps') rfl hca hcb hps hpure (round l) (by simp only [φ, l]; omega) ⟨_, by simp [φ, a0], rfl⟩ hj hi hxs hv }
      have hvals : RepL si (fst ++ AV.clo (.yield l) [] [] :: cps) (fs ++ .func (.yield l) #[] #[] :: cs) := by
        have pu : ∀ ys vs, pureL ys = true → RepL ss ys vs → RepL si ys vs := fun ys vs hp hr => by
          have h1 : RepL so ys vs := RepL.mono evs ys vs hr
          refine RepL.ofPure (σ := ss) (σ' := si) (fun b hb => ⟨fun h => h, ?_, by show b < W1.heap.size; have := hb.2.2; omega⟩) (fun b hb => ?_) ys vs hp hr
          · have := hb.2.2
            rintro (g | g | rfl | rfl)
            · exact hb.1 g
            · exact hb.2.1 g
            · simp only [l] at this; omega
            · simp only [D] at this; omega
          · have := Array.getElem?_eq_getElem hb.2.2
            show W1.heap[b]? = _
            rw [this]; exact hkeep b _ this
        refine repL_app (pu _ _ hpu.1 hf1) ?_
        simp only [RepL]
        exact ⟨_, _, rfl, by simp [Rep, RepL], pu _ _ hpu.2 hc1⟩
      refine ⟨l, [{ target := .collected D, args := #[] }], W1, { target := .fn (.func fi) cs.toArray, args := fs.toArray ++ #[.func (.yield l) #[] #[]] }, W1, fi, (fs.toArray ++ #[.func (.yield l) #[] #[]]) ++ cs.toArray, W1, run_enterLoop_outer _ _ _ _ _, ?_, fun _ _ => trivial, ?_, fun h => by simp [Fence.wide] at h, ?_⟩
      · have hy : Array.map a.eval #[.const (.func (.yield l) #[] #[])] = #[.func (.yield l) #[] #[]] := by simp [Act.eval]
        simp only [resolve, rangeCall, hy, hX, Deferred.ofValue, Sem.run_pure]
      · simp only [invoke]
        exact run_call hok _ _
      have harr : (fs.toArray ++ #[.func (.yield l) #[] #[]]) ++ cs.toArray = (fs ++ .func (.yield l) #[] #[] :: cs).toArray := by apply Array.ext'; simp
      rw [harr]
      refine (hit l (ss.w.heap.size + 2) _ si _ hR hJ0 hsi (fun _ h => h) hvals (by show _ ≤ W1.heap.size; omega)).mono ?_
      rintro en w' ⟨v, σ', rfl, rfl, hj⟩
      have key : ∀ hp cnt st pe so2, Pair φ.O0 φ.l φ.D so2 σ' → Way φ.ss so2 σ' → Inv so2 φ.e hp φ.a nt hbo → (∀ m, so2.al m → m.2 ≤ cnt) → ¬ so2.M φ.l → so2.w.heap[φ.l]? = some (.loop (φ.lp st pe)) → st ≠ .busy →
          ∃ s5 : Cf, (Instr.endLoop l).run P σ'.w = .ok pe s5.w ∧ Evo ss s5 ∧ At (Ctx.fn P S nt hbo) s5 ⟨e, hp, cnt⟩ a0 := by
        intro hp cnt st pe so2 h1 h2 h3 h4 h8 h5 hb
        have dis2 : ∀ b, so2.O b → b < so2.w.heap.size ∧ ¬ so2.M b := fun b hb => ⟨h3.h.ou b hb, fun hM => h3.h.dis b hM hb⟩
        obtain ⟨s4, hs4, o4, r4, l4, k4⟩ := put_loop (r' := { φ.lp st pe with state := .exhausted }) dis2 h8 h5
        have hOs : ∀ b, ss.O b → s4.O b := fun b hb => by rw [r4.out]; exact (h1.oo b).2 (.inl hb)
        let s5 : Cf := { s4 with O := ss.O }
        have h4i := h3.h.oth o4
        have o5 : Oth s4 s5 := ⟨rfl, rfl, rfl, rfl, rfl, fun b hb => ⟨h4i.ou b (hOs b hb), fun hM => h4i.dis b hM (hOs b hb), fun hf => hf.2.1 (hOs b hb)⟩, Nat.le_refl _, fun _ _ => rfl, fun _ _ _ _ h => h, SameO.refl _⟩
        have df4 := h3.df.rd r4 h5
        refine ⟨s5, ?_, ⟨fun n hn => ?_, fun n hn l' hl' => ?_, fun b o ho hm => ?_, rfl, Nat.le_trans h2.sz r4.sz, h2.io.trans r4.io⟩, ⟨h4i.oth o5, (h3.t.ev o4.ev).ev o5.ev, h3.sz, ⟨fun d hd => ?_, df4.nd, df4.le⟩⟩, fun m hm => h4 m ?_, trivial⟩
        · have := run_endLoop (P := P) (w := so2.w) h5 hb
          rw [h1.w] at this
          show _ = Result.ok pe s4.w
          rw [hs4, this, h1.w]
        · exact ⟨(r4.box n (h2.box n hn).1).1, ((r4.box n (h2.box n hn).1).2).trans (h2.box n hn).2⟩
        · obtain ⟨l1, g1, g2, g3⟩ := r4.arr n (h2.box n hn).1 l' hl'
          obtain ⟨m, q1, q2, q3⟩ := h2.arr n hn l1 g1
          refine ⟨m, q1, Nat.le_trans q2 g2, fun e => ?_⟩
          have e1 : m = l1 := by omega
          have e2 : l1 = l' := by omega
          exact (g3 e2).trans (q3 e1)
        · obtain ⟨g1, g2⟩ := h2.old b o ho hm
          have hlt := (Array.getElem?_eq_some_iff.1 ho).1
          exact r4.fro b o (by intro e; subst e; simp only [φ, l] at hlt; omega) g1 g2
        · obtain ⟨r, r1, r2, r3, r4', r5⟩ := df4.all d hd
          exact ⟨r, r1, r2, r3, r4', fun h => r5 (hOs r h)⟩
        · have hm' : s4.al m := hm
          rw [o4.al] at hm'; exact hm'
      have inv : ∀ {k : Int}, RJ (Ctx.fn P S nt hbo) φ I Pre K Q k σ' → rangePost Fence.wide 0 P l (lift (Ctx.fn P S nt hbo) ss Q) a0 (.returned v) σ'.w ∨ False ∨ k ≠ xs.length ∧ k ≠ -1 := by
        intro k hj
        obtain ⟨so2, hp, cnt, st, pe, h1, h2, h3, h4, h8, h5, h6, h7⟩ := hj
        rcases h7 with ⟨x, hx, hk, rfl, rfl, rfl, rfl⟩ | ⟨hk, c', e', rfl, rfl, hjp, hq⟩
        · by_cases hlen : K x = xs.length
          · obtain ⟨s5, g1, g2, g3⟩ := key _ _ _ _ so2 h1 h2 h3 h4 h8 h5 (by simp)
            exact .inl ⟨none, s5.w, g1, s5, _, .n, rfl, g2, g3, rfl, hend x hx hlen⟩
          · exact .inr (.inr ⟨by omega, by omega⟩)
        · obtain ⟨s5, g1, g2, g3⟩ := key _ _ _ _ so2 h1 h2 h3 h4 h8 h5 (by simp)
          refine .inl ⟨some c', s5.w, g1, ?_⟩
          rcases hjp with ⟨rfl, rfl⟩ | ⟨i, rfl, rfl⟩
          · exact wpIn_ret ⟨s5, _, .r, rfl, g2, g3, rfl, hq⟩
          · exact wpIn_exit ⟨s5, _, .x i, rfl, g2, g3, rfl, hq⟩
      rcases hj with hj | hj
      · rcases inv hj with h | h | h
        · exact h
        · exact h.elim
        · exact absurd rfl h.1
      · rcases inv hj with h | h | h
        · exact h
        · exact h.elim
        · exact absurd rfl h.2
    · simp at hc
  | region id ops d =>
    simp only [cCode] at hc
    obtain ⟨_, _, ⟨_, e⟩ | ⟨_, _, _, _, e⟩⟩ := cReg_inv hc <;> cases e
  | seq x y => simp only [cCode] at hc; split at hc <;> simp at hc
  | cond c x y => simp only [cCode] at hc; split at hc <;> simp at hc
  | _ => simp [cCode] at hc
end
end Go.Proofs.Ytmmfbjmjhjmccaa.Am
