/-
  The abstract machine, A14.
-/
import Derived.Test.YtdabfcbelkjmgaaDoorA13
import Derived.RecoverIn
/-
  The abstract machine: functions that are handed a box of the caller's: iterators, readers.
-/
namespace Go.Proofs.YtdabfcbelkjmgaaDoor.Am
set_option linter.unusedSimpArgs false
set_option linter.unusedVariables false
open Go

theorem hcut_at {hp : Hp} {n : Nm} : ∀ {k o : Nat} {cs : List AV}, hcut hp n o k = some cs → ∀ j c, cs[j]? = some c → hl hp (.c n (o + j)) = some c
  | 0, o, cs, h, j, c, hj => by simp [hcut] at h; subst h; simp at hj
  | k + 1, o, cs, h, j, c, hj => by
    simp only [hcut] at h
    split at h
    · rename_i c' hc
      cases hr : hcut hp n (o + 1) k with
      | none => simp [hr] at h
      | some ds =>
        simp [hr] at h
        subst h
        cases j with
        | zero => simp at hj; subst hj; exact hc
        | succ j =>
          have := hcut_at hr j c (by simpa using hj)
          rwa [show o + 1 + j = o + (j + 1) by omega] at this
    · simp at h
theorem oneBox_rep' {σ τ : Cf} (hf : ∀ b, Fz σ b → Fz τ b) (hw : ∀ b, Fz σ b → τ.w.heap[b]? = σ.w.heap[b]?) {n : Nm} (ha : τ.al n) (hr : τ.rb n = σ.rb n) : ∀ {args : List AV} {vs : List Value}, oneBox args = true → boxOf args = some n → RepL σ args vs → RepL τ args vs
  | [], _, h, _, _ => by simp [oneBox] at h
  | c :: cs, vs, h1, h2, hr' => by
    simp only [RepL] at hr' ⊢
    obtain ⟨y, ys, rfl, g1, g2⟩ := hr'
    refine ⟨y, ys, rfl, ?_⟩
    cases c with
    | box m o =>
      simp only [oneBox] at h1
      simp only [boxOf, Option.some.injEq] at h2
      subst h2
      simp only [Rep] at g1
      refine ⟨?_, RepL.ofPure hf hw _ _ h1 g2⟩
      simp only [Rep]
      exact ⟨ha, by rw [hr]; exact g1.2⟩
    | _ => simp only [oneBox, Bool.and_eq_true, boxOf] at h1 h2; exact ⟨Rep.ofPure hf hw _ _ h1.1 g1, oneBox_rep' hf hw ha hr h1.2 h2 g2⟩
/-- The function, bound to these values, one of them a box that it alone writes, yields this list. -/
def ItB (P : Program) (f : Nat) (fst cps : List AV) (m : Nm) (bc : List AV) (xs : List (List AV)) : Prop :=
  ∀ (l hb : Nat) (J : Int → Cf → Prop) (σ : Cf) (vals : List Value), Rng P Fence.wide l hb xs J → J 0 σ → HInv σ (newc m 0 bc) → (∀ n, σ.al n → n = m) → RepL σ (fst ++ AV.clo (.yield l) [] [] :: cps) vals → hb ≤ σ.w.heap.size → Gl σ →
    CallsIn Fence.wide 0 P f vals.toArray σ.w fun e w' => ∃ v σ', e = .returned v ∧ σ'.w = w' ∧ (J xs.length σ' ∨ J (-1) σ')
section
variable {P : Program} {S : Tab} {nt hbo : Nat}
theorem awp_rfunB {X : Type} (m : Nm) (bc : List AV) (I : X → Hp × Nat) (Pre : X → Prop) (K : X → Nat) (x0 : X) {f : Opd} {ps : List Nat} {asg bdy : AC} {Q : AE → St → Prop} {e : Env} {h : Hp} {c fi : Nat} {fst cps : List AV} {xs : List (List AV)}
    (hx : ung true (opv e f) = .clo (.func fi) fst cps) (hit : ItB P fi fst cps m bc xs) (hok : okF P fi) (hpu : pureL fst = true ∧ oneBox cps = true ∧ boxOf cps = some m) (hbc : hcut h m 0 bc.length = some bc ∧ bc.isEmpty = false ∧ flatL bc = true) (hno : ∀ j, hl (I x0).1 (.c m j) = none) (hps : ∀ p ∈ ps, p < nt) (hpure : ∀ args ∈ xs, pureL args = true ∧ args.length = ps.length)
    (h0 : Pre x0) (hk0 : K x0 = 0) (hle : Le ⟨e, (I x0).1, (I x0).2⟩ ⟨e, h, c⟩)
    (round : ∀ l x, Pre x → ∀ args, xs[K x]? = some args → awp (Ctx.rdG P S nt l) asg (asgK (Ctx.rdG P S nt l) bdy (rngK e I Pre K (K x + 1) Q)) ⟨putps ps args e, (I x).1, (I x).2⟩)
    (hend : ∀ x, Pre x → K x = xs.length → Q .n ⟨e, (I x).1, (I x).2⟩) : awp (Ctx.fn P S nt hbo) (.rfun f ps asg bdy) Q ⟨e, h, c⟩ := by
  intro code hc σ a hA
  cases code with
  | rangeFunc g ps' assign body =>
    simp only [cCode] at hc
    split at hc
    · rename_i x' y' hca hcb
      simp at hc
      obtain ⟨rfl, rfl, rfl, rfl⟩ := hc
      obtain ⟨ev0, A0⟩ := hA.leM hle
      have hcel : ∀ j c, bc[j]? = some c → hl h (.c m j) = some c := fun j c hj => by
        have := hcut_at hbc.1 j c hj
        simpa using this
      obtain ⟨b0, hb0⟩ : ∃ b0, bc[0]? = some b0 := by cases bc with | nil => simp at hbc | cons b _ => exact ⟨b, rfl⟩
      have hcm := hA.1.h.cel m 0 b0 (hcel 0 b0 hb0)
      have hexc : ∀ p b, Owns { σ with ln := lenOf (I x0).1 } (I x0).1 p b → b ≠ σ.rb m := by
        rintro p b hp rfl
        have hsub := leH_hl hle.h
        have h1 : Owns σ h p (σ.rb m) := by
          rcases hp with ⟨g1, g2, j, c, g3⟩ | ⟨g1, ⟨sz, rows, d, g2⟩, o, cap, g3, g4⟩
          · exact .inl ⟨g1, g2, j, c, hsub _ _ g3⟩
          · exact .inr ⟨g1, ⟨sz, rows, d, hsub _ _ g2⟩, o, cap, g3, g4⟩
        have h2 := hA.1.h.inj p (false, m) _ h1 (.inl ⟨rfl, rfl, 0, b0, hcel 0 b0 hb0⟩)
        subst h2
        rcases hp with ⟨_, _, j, c, g3⟩ | ⟨g1, _⟩
        · have := hno j; simp only at g3; rw [this] at g3; cases g3
        · cases g1
      obtain ⟨hrlt, hrM, hrO, hrc⟩ : σ.rb m < σ.w.heap.size ∧ σ.M (σ.rb m) ∧ ¬ σ.O (σ.rb m) ∧ ∃ cs T, σ.w.heap[σ.rb m]? = some (.cells cs T (0, 0)) := by
        obtain ⟨_, k2, cs, T, _, k3, _⟩ := hcm
        exact ⟨hA.1.h.lt _ k2, k2, hA.1.h.dis _ k2, cs, T, k3⟩
      have hbcel : ∀ j c, bc[j]? = some c → CelF σ m j c := fun j c hj => hA.1.h.cel m j c (hcel j c hj)
      generalize hss : ({ σ with ln := lenOf (I x0).1 } : Cf) = ss at ev0 A0 hexc
      have ew : ss.w = σ.w := by rw [← hss]
      have eM : ss.M = σ.M := by rw [← hss]
      have eO : ss.O = σ.O := by rw [← hss]
      have er : ss.rb = σ.rb := by rw [← hss]
      rw [← ew] at hrlt hrc
      rw [← eM] at hrM
      rw [← eO] at hrO
      rw [← er] at hrlt hrM hrO hrc hexc
      have hbce : ∀ j c, bc[j]? = some c → ∃ cs T x, ss.w.heap[ss.rb m]? = some (.cells cs T (0, 0)) ∧ cs[j]? = some x ∧ oneC x = true ∧ Rep σ c x := fun j c hj => by
        obtain ⟨_, _, cs, T, x, k3, k4, k5, k6⟩ := hbcel j c hj
        exact ⟨cs, T, x, by rw [ew, er]; exact k3, k4, k5, k6⟩
      rw [← ew]
      refine wpIn_mono (Q := lift (Ctx.fn P S nt hbo) ss Q) ?_ fun e a w k => k.mono (Ctx.ofE _ ev0)
      have hX := arg_rep (g := true) rfl A0.1.t g
      rw [hx] at hX
      simp only [Rep] at hX
      obtain ⟨fs, cs, hX, hf1, hc1⟩ := hX
      refine wpIn_rangeFunc (F := Fence.wide) fun fn _ => ?_
      let lp : LoopState → Option Code → Loop := fun st pe => { state := st, pending := pe, fn := fn, tmps := a.tmps, params := ps', assign := assign, body := body, defers := ss.w.heap.size }
      let W1 : World := (ss.w.alloc (.deferred (some []))).alloc (.loop (lp .ready none))
      have hL1 : W1.heap[ss.w.heap.size + 1]? = some (.loop (lp .ready none)) := by
        have := World.alloc_heap_new (ss.w.alloc (.deferred (some []))) (.loop (lp .ready none)); rwa [World.size_alloc] at this
      have hsz1 : W1.heap.size = ss.w.heap.size + 2 := by simp [W1]
      have hkeep : ∀ (b : Nat) (o : Obj), ss.w.heap[b]? = some o → W1.heap[b]? = some o := fun b o hb => by
        have hlt := (Array.getElem?_eq_some_iff.1 hb).1
        rw [heap_alloc_lt (by simp; omega), heap_alloc_lt hlt]; exact hb
      have hK1 : W1.heap[ss.w.heap.size]? = some (.deferred (some [])) := by
        rw [heap_alloc_lt (by simp)]; exact World.alloc_heap_new ss.w _
      let D := ss.w.heap.size
      let l := ss.w.heap.size + 1
      let a0 : Act := { a with defers := [{ target := .collected D, args := #[] }] ++ a.defers }
      let φ : RFix := { O0 := ss.O, l := l, D := D, ss := ss, e := e, a := a0, lp := lp }
      let so : Cf := { ss with w := W1, M := fun b => ss.M b ∧ b ≠ ss.rb m, O := fun b => ss.O b ∨ b = ss.rb m }
      have evs0 : Evo ss (ss.at W1) := Evo.at hkeep ⟨rfl, rfl⟩
      have fzs : ∀ b, Fz ss b → Fz so b := fun b hb => ⟨fun h => hb.1 h.1, fun h => h.elim hb.2.1 fun e => hb.1 (e ▸ hrM), by have := hb.2.2; show b < W1.heap.size; omega⟩
      have evs : Ev ss so := ⟨fun _ h => ⟨h, rfl⟩, fun _ _ l h => ⟨l, h, Nat.le_refl _, fun _ => rfl⟩, fzs, fun b o x hb hc => evs0.cell hb.1 hc⟩
      let si : Cf := { rb := ss.rb, ra := fun _ => (none, 0), M := fun b => b = ss.rb m, O := fun b => (ss.M b ∧ b ≠ ss.rb m) ∨ ss.O b ∨ b = l ∨ b = D, ln := fun _ => none, al := fun n => n = m, w := W1 }
      have hgsi : Gl si := fun b j hj => by
        obtain ⟨g1, g2⟩ := A0.1.df.gl b j hj
        have g3 := (Gl.mono A0.1.df.gl evs0 b j hj).2
        refine ⟨⟨fun h => g1.1 (show ss.M b from h ▸ hrM), ?_, ?_⟩, g3⟩
        · have := g1.2.2
          rintro (h | h | h | h)
          · exact g1.1 h.1
          · exact g1.2.1 h
          · simp only [l] at h; omega
          · simp only [D] at h; omega
        · show b < W1.heap.size
          have := g1.2.2; omega
      have hdf : ∀ d ∈ φ.a.defers, ∃ r, d = { target := .collected r, args := #[] } ∧ (r < φ.ss.w.heap.size ∨ r = φ.D) := by
        intro d hd
        simp only [φ, a0, List.cons_append, List.nil_append, List.mem_cons] at hd
        rcases hd with rfl | hd
        · exact ⟨D, rfl, .inr rfl⟩
        · obtain ⟨r, r1, _, r3, _⟩ := A0.1.df.all rfl d hd
          exact ⟨r, r1, .inl (Array.getElem?_eq_some_iff.1 r3).1⟩
      have nM : ∀ b, ss.w.heap.size ≤ b → ¬ ss.M b := fun b hb hm => by have := A0.1.h.lt b hm; omega
      have nO : ∀ b, ss.w.heap.size ≤ b → ¬ ss.O b := fun b hb hm => by have := A0.1.h.ou b hm; omega
      have hso : HInv so (I x0).1 := by
        have h1 : HInv (ss.at W1) (I x0).1 := A0.1.h.at hkeep ⟨rfl, rfl⟩
        have own : ∀ p b, Owns so (I x0).1 p b → Owns ss (I x0).1 p b := fun p b hp => hp
        refine ⟨h1.ln, fun n j c hc => ?_, fun n sz live rows d hc => ?_, h1.inj, fun b hb => h1.lt b hb.1, fun b hb => ?_, fun b hb ho => ?_⟩
        · obtain ⟨k1, k2, cs, T, x, k3, k4, k5, k6⟩ := h1.cel n j c hc
          have hne := hexc (false, n) (ss.rb n) (.inl ⟨rfl, rfl, j, c, hc⟩)
          have ev1 : Ev (ss.at W1) so := ⟨fun _ h => ⟨h, rfl⟩, fun _ _ l h => ⟨l, h, Nat.le_refl _, fun _ => rfl⟩, fun b hb => ⟨fun h => hb.1 h.1, fun h => h.elim hb.2.1 fun e => hb.1 (e ▸ hrM), hb.2.2⟩, fun b o x _ hc => hc⟩
          exact ⟨k1, ⟨k2, hne⟩, cs, T, x, k3, k4, k5, k6.monoE ev1⟩
        · have ev1 : Ev (ss.at W1) so := ⟨fun _ h => ⟨h, rfl⟩, fun _ _ l h => ⟨l, h, Nat.le_refl _, fun _ => rfl⟩, fun b hb => ⟨fun h => hb.1 h.1, fun h => h.elim hb.2.1 fun e => hb.1 (e ▸ hrM), hb.2.2⟩, fun b o x _ hc => hc⟩
          refine (h1.arr n sz live rows d hc).keepE ev1 rfl fun hl b o cap h2 h3 h4 => ⟨⟨h4, ?_⟩, rfl⟩
          subst hl
          exact hexc (true, n) b (.inr ⟨rfl, ⟨sz, rows, d, hc⟩, o, cap, h2, h3⟩)
        · rcases hb with hb | rfl
          · exact h1.ou b hb
          · show ss.rb m < W1.heap.size; omega
        · rcases ho with ho | rfl
          · exact h1.dis b hb.1 ho
          · exact hb.2 rfl
      have hsi : HInv si (newc m 0 bc) := by
        have key : ∀ n j c, hl (newc m 0 bc) (.c n j) = some c → n = m ∧ bc[j]? = some c := by
          intro n j c hm
          rw [hl_newc] at hm
          split at hm
          · rename_i e; exact ⟨e.1, by simpa using hm⟩
          · cases hm
        have own : ∀ p b, Owns si (newc m 0 bc) p b → p = (false, m) := by
          rintro ⟨k, n⟩ b (⟨h1, _, j, c, h3⟩ | ⟨_, ⟨_, _, _, h3⟩, _⟩)
          · obtain ⟨rfl, _⟩ := key n j c h3
            simp only at h1; rw [h1]
          · simp [hl_newc_a] at h3
        refine ⟨fun n => by simp [si, lenOf, hl_newc_a], fun n j c hn => ?_, fun n sz live rows d hn => by simp [hl_newc_a] at hn, fun p q b hp hq => by rw [own p b hp, own q b hq], fun b hb => by rw [show b = ss.rb m from hb]; show _ < W1.heap.size; omega, fun b hb => ?_, fun b hb ho => ?_⟩
        · obtain ⟨rfl, h1⟩ := key n j c hn
          obtain ⟨cs, T, x, k3, k4, k5, k6⟩ := hbce j c h1
          exact ⟨rfl, rfl, cs, T, x, hkeep _ _ k3, k4, k5, flat_rep' c x (flatL_mem hbc.2.2 (List.mem_of_getElem? h1)) k6⟩
        · show b < W1.heap.size
          rw [hsz1]
          rcases hb with hb | hb | rfl | rfl
          · have := A0.1.h.lt b hb.1; omega
          · have := A0.1.h.ou b hb; omega
          · simp only [l]; omega
          · simp only [D]; omega
        · have hb : b = ss.rb m := hb
          rcases ho with ho | ho | ho | ho
          · exact ho.2 hb
          · exact hrO (hb ▸ ho)
          · simp only [l] at ho; omega
          · simp only [D] at ho; omega
      have hJ0 : RJ (Ctx.fn P S nt hbo) φ I Pre K Q 0 si := by
        refine ⟨so, (I x0).1, (I x0).2, .ready, none, ⟨rfl, fun b => Iff.rfl, fun b => ⟨fun h => h.imp id fun h => ⟨h, by rw [h]; show _ < W1.heap.size; omega⟩, fun h => h.imp id fun h => h.1⟩, hsi.dis, hsi.ou⟩, ⟨evs.box, evs.arr, fun b o hb hM => ⟨hkeep b o hb, fun h => hM h.1⟩, fun b _ h1 h2 => h1 (show ss.M b from h2 ▸ hrM), evs0.sz, evs0.io⟩,
          ⟨hso, A0.1.t.ev evs, A0.1.sz, DOK.of rfl (fun d hd => ?_) ?_ (Nat.le_trans A0.1.df.le evs0.sz) (A0.1.df.gl.ev evs)⟩, A0.2.1, fun h => nM _ (Nat.le_succ _) h.1, hL1, hK1, .inl ⟨x0, h0, by simp [hk0], rfl, rfl, rfl, rfl⟩⟩
        · simp only [φ, a0, List.cons_append, List.nil_append, List.mem_cons] at hd
          rcases hd with rfl | hd
          · exact ⟨D, rfl, A0.1.df.le, hK1, fun h => nM _ (Nat.le_refl _) h.1, fun h => h.elim (nO _ (Nat.le_refl _)) fun h => by simp only [D] at h; omega⟩
          · obtain ⟨r, r1, r2, r3, r4, r5⟩ := A0.1.df.all rfl d hd
            refine ⟨r, r1, r2, hkeep _ _ r3, fun h => r4 h.1, fun h => h.elim r5 fun h => ?_⟩
            obtain ⟨cs, T, hc⟩ := hrc
            rw [← h, r3] at hc
            cases hc
        · simp only [φ, a0, List.cons_append, List.nil_append]
          refine List.pairwise_cons.2 ⟨fun d hd he => ?_, A0.1.df.nd rfl⟩
          obtain ⟨r, rfl, _, r3, _⟩ := A0.1.df.all rfl d hd
          have : D = r := by simpa using he
          have := (Array.getElem?_eq_some_iff.1 r3).1
          omega
      have hDn : ∀ so si hp, Way φ.ss so si → Inv so φ.e hp φ.a nt (hbo, false) → ¬ so.M φ.D := fun so si hp _ h3 => by
        obtain ⟨r, r1, _, _, r4, _⟩ := h3.df.all rfl { target := .collected D, args := #[] } (by simp [φ, a0])
        have : φ.D = r := by simpa using r1
        rw [this]; exact r4
      have hR : Rng P Fence.wide l (ss.w.heap.size + 2) xs (RJ (Ctx.fn P S nt hbo) φ I Pre K Q) :=
        { evo := fun hj ev => hj.evo hdf ev
          oth := fun hj o hO hP => hj.oth (hb := ss.w.heap.size + 2) (by simp only [φ]; omega) hdf o hO hP
          rnd := fun hj hi hxs hv => RJ.rndG (φ := φ) (fn := fn) (ps := ps') rfl hca hcb hps hpure (round l) (by simp only [φ, l]; omega) hDn hj hi hxs hv }
      have hvals : RepL si (fst ++ AV.clo (.yield l) [] [] :: cps) (fs ++ .func (.yield l) #[] #[] :: cs) := by
        have ff : ∀ b, Fz ss b → Fz si b := fun b hb => ⟨fun h => hb.1 (show ss.M b from h ▸ hrM), by
          have := hb.2.2
          rintro (g | g | g | g)
          · exact hb.1 g.1
          · exact hb.2.1 g
          · simp only [l] at g; omega
          · simp only [D] at g; omega, by show b < W1.heap.size; have := hb.2.2; omega⟩
        have fw : ∀ b, Fz ss b → si.w.heap[b]? = ss.w.heap[b]? := fun b hb => by
          have := Array.getElem?_eq_getElem hb.2.2
          show W1.heap[b]? = _
          rw [this]; exact hkeep b _ this
        refine repL_app (RepL.ofPure ff fw _ _ hpu.1 hf1) ?_
        simp only [RepL]
        exact ⟨_, _, rfl, by simp [Rep, RepL], oneBox_rep' ff fw rfl rfl hpu.2.1 hpu.2.2 hc1⟩
      refine ⟨l, [{ target := .collected D, args := #[] }], W1, { target := .fn (.func fi) cs.toArray, args := fs.toArray ++ #[.func (.yield l) #[] #[]] }, W1, fi, (fs.toArray ++ #[.func (.yield l) #[] #[]]) ++ cs.toArray, W1, run_enterLoop_outer _ _ _ _ _, ?_, fun _ _ => trivial, ?_, fun h => by simp [Fence.wide] at h, ?_⟩
      · have hy : Array.map a.eval #[.const (.func (.yield l) #[] #[])] = #[.func (.yield l) #[] #[]] := by simp [Act.eval]
        simp only [resolve, rangeCall, hy, hX, Deferred.ofValue, Sem.run_pure]
      · simp only [invoke]
        exact run_call hok _ _
      have harr : (fs.toArray ++ #[.func (.yield l) #[] #[]]) ++ cs.toArray = (fs ++ .func (.yield l) #[] #[] :: cs).toArray := by apply Array.ext'; simp
      rw [harr]
      refine (hit l (ss.w.heap.size + 2) _ si _ hR hJ0 hsi (fun _ h => h) hvals (by show _ ≤ W1.heap.size; omega) hgsi).mono ?_
      rintro en w' ⟨v, σ', rfl, rfl, hj⟩
      have key : ∀ hp cnt st pe so2, Pair φ.O0 φ.l φ.D so2 σ' → Way φ.ss so2 σ' → Inv so2 φ.e hp φ.a nt (hbo, false) → (∀ m, so2.al m → m.2 ≤ cnt) → ¬ so2.M φ.l → so2.w.heap[φ.l]? = some (.loop (φ.lp st pe)) → st ≠ .busy →
          ∃ s5 : Cf, (Instr.endLoop l).run P σ'.w = .ok pe s5.w ∧ Evo ss s5 ∧ At (Ctx.fn P S nt hbo) s5 ⟨e, hp, cnt⟩ a0 := by
        intro hp cnt st pe so2 h1 h2 h3 h4 h8 h5 hb
        have dis2 : ∀ b, so2.O b → b < so2.w.heap.size ∧ ¬ so2.M b := fun b hb => ⟨h3.h.ou b hb, fun hM => h3.h.dis b hM hb⟩
        obtain ⟨s4, hs4, o4, r4, l4, k4⟩ := put_loop (r' := { φ.lp st pe with state := .exhausted }) dis2 h8 h5
        have hOs : ∀ b, ss.O b → s4.O b := fun b hb => by rw [r4.out]; exact (h1.oo b).2 (.inl hb)
        let s5 : Cf := { s4 with O := ss.O }
        have h4i := h3.h.oth o4
        have o5 : Oth s4 s5 := ⟨rfl, rfl, rfl, rfl, rfl, fun b hb => ⟨h4i.ou b (hOs b hb), fun hM => h4i.dis b hM (hOs b hb), fun hf => hf.2.1 (hOs b hb)⟩, Nat.le_refl _, fun _ _ => rfl, fun _ _ _ _ h => h, SameO.refl _⟩
        have df4 := h3.df.rd r4 h5 (.inl rfl)
        refine ⟨s5, ?_, ⟨fun n hn => ?_, fun n hn l' hl' => ?_, fun b o ho hm => ?_, rfl, Nat.le_trans h2.sz r4.sz, h2.io.trans r4.io⟩, ⟨h4i.oth o5, (h3.t.ev o4.ev).ev o5.ev, h3.sz, DOK.of rfl (fun d hd => ?_) (df4.nd rfl) df4.le (df4.gl.ev o5.ev)⟩, fun m hm => h4 m ?_, trivial⟩
        · have := run_endLoop (P := P) (w := so2.w) h5 hb
          rw [h1.w] at this
          show _ = Result.ok pe s4.w
          rw [hs4, this, h1.w]
        · exact ⟨(r4.box n (h2.box n hn).1).1, ((r4.box n (h2.box n hn).1).2).trans (h2.box n hn).2⟩
        · obtain ⟨l1, g1, g2, g3⟩ := r4.arr n (h2.box n hn).1 l' hl'
          obtain ⟨m, q1, q2, q3⟩ := h2.arr n hn l1 g1
          refine ⟨m, q1, Nat.le_trans q2 g2, fun e => ?_⟩
          have e1 : m = l1 := by omega
          have e2 : l1 = l' := by omega
          exact (g3 e2).trans (q3 e1)
        · obtain ⟨g1, g2⟩ := h2.old b o ho hm
          have hlt := (Array.getElem?_eq_some_iff.1 ho).1
          exact r4.fro b o (by intro e; subst e; simp only [φ, l] at hlt; omega) g1 g2
        · obtain ⟨r, r1, r2, r3, r4', r5⟩ := df4.all rfl d hd
          exact ⟨r, r1, r2, r3, r4', fun h => r5 (hOs r h)⟩
        · have hm' : s4.al m := hm
          rw [o4.al] at hm'; exact hm'
      have inv : ∀ {k : Int}, RJ (Ctx.fn P S nt hbo) φ I Pre K Q k σ' → rangePost Fence.wide 0 P l (lift (Ctx.fn P S nt hbo) ss Q) a0 (.returned v) σ'.w ∨ False ∨ k ≠ xs.length ∧ k ≠ -1 := by
        intro k hj
        obtain ⟨so2, hp, cnt, st, pe, h1, h2, h3, h4, h8, h5, h6, h7⟩ := hj
        rcases h7 with ⟨x, hx, hk, rfl, rfl, rfl, rfl⟩ | ⟨hk, c', e', rfl, rfl, hjp, hq⟩
        · by_cases hlen : K x = xs.length
          · obtain ⟨s5, g1, g2, g3⟩ := key _ _ _ _ so2 h1 h2 h3 h4 h8 h5 (by simp)
            exact .inl ⟨none, s5.w, g1, s5, _, .n, rfl, g2, g3, rfl, hend x hx hlen⟩
          · exact .inr (.inr ⟨by omega, by omega⟩)
        · obtain ⟨s5, g1, g2, g3⟩ := key _ _ _ _ so2 h1 h2 h3 h4 h8 h5 (by simp)
          refine .inl ⟨some c', s5.w, g1, ?_⟩
          rcases hjp with ⟨rfl, rfl⟩ | ⟨i, rfl, rfl⟩
          · exact wpIn_ret ⟨s5, _, .r, rfl, g2, g3, rfl, hq⟩
          · exact wpIn_exit ⟨s5, _, .x i, rfl, g2, g3, rfl, hq⟩
      rcases hj with hj | hj
      · rcases inv hj with h | h | h
        · exact h
        · exact h.elim
        · exact absurd rfl h.1
      · rcases inv hj with h | h | h
        · exact h
        · exact h.elim
        · exact absurd rfl h.2
    · simp at hc
  | region id ops d =>
    simp only [cCode] at hc
    obtain ⟨_, _, ⟨_, e⟩ | ⟨_, _, _, _, e⟩⟩ := cReg_inv hc <;> cases e
  | seq x y => simp only [cCode] at hc; split at hc <;> simp at hc
  | cond c x y => simp only [cCode] at hc; split at hc <;> simp at hc
  | _ => simp [cCode] at hc
end
theorem itb_fn {P : Program} {S : Tab} {m : Nm} {bc : List AV} (hS : TabOK P S) {f : Nat} {fn : Func} {c : AC} {fst cps : List AV} {xs : List (List AV)} (nt : Nat) (hf : P.funcs[f]? = some fn) (hc : cFun P fn = some (c, [])) (hnt : fn.ntmps = nt) (hgs : nt ≤ gs)
    (hn : (fst ++ cps).length < nt)
    (h : ∀ (l hb : Nat) (J : Int → Cf → Prop) (evo : ∀ {k : Int} {σ σ' : Cf}, J k σ → Evo σ σ' → J k σ'), Rng P Fence.wide l hb xs J →
      awp (Ctx.it P Fence.wide S nt hb J hgs evo) c (itK xs.length) ⟨(gs, ghost 0) :: envOf 0 (fst ++ AV.clo (.yield l) [] [] :: cps), newc m 0 bc, m.2⟩) : ItB P f fst cps m bc xs := by
  subst hnt
  intro l hb J σ vals hR hJ hI hal hx hsz hgl
  unfold cFun at hc
  split at hc
  · rename_i b hbd
    split at hc
    · rename_i c' r' h1 h2
      simp at hc
      obtain ⟨rfl, rfl⟩ := hc
      have hw := h l hb J hR.evo hR b h1 σ { tmps := vals.toArray ++ Array.replicate (fn.ntmps - vals.toArray.size) undef, defers := [] } ?_
      · refine callsIn_of_wp_marks (n := 0) hf hbd trivial (wpIn_mono hw ?_)
        rintro e a' w' ⟨σ', s', e', rfl, _, h3, h4, h5⟩
        have key : (lk s'.env gs = ghost xs.length ∨ lk s'.env gs = ghost (-1)) → LeavesInM Fence.wide 0 P fn a'.tmps (fun e w' => ∃ v σ', e = .returned v ∧ σ'.w = w' ∧ (J xs.length σ' ∨ J (-1) σ')) a'.defers .returning σ'.w := by
          intro hk
          refine leaves_marks a'.defers σ' (fun b hb => ⟨h3.1.h.ou b hb, fun hM => h3.1.h.dis b hM hb⟩) (DOK.of' h3.1.df) fun ρ ko kO kb => ?_
          obtain ⟨ρ', hρ, hn'⟩ := (h3.1.h.oth ko).nil
          obtain ⟨us, k1, k2⟩ := exRVs_sound (P := P) (s := ⟨[], [], 0⟩) (rs := fn.results.toList) (rvs := []) (vc := True) (xs := []) (σ := ρ') (a := { a' with defers := [] }) (nt := fn.ntmps) (hb := (hb, false))
            ⟨hn', fun t => by simp [lk, Rep], h3.1.sz, DOK.nil (by rw [hρ]; exact Nat.le_trans h3.1.df.le ko.sz) (by rw [hρ]; exact fun b j hj => ⟨((h3.1.df.gl.ev ko.ev) b j hj).1, ((h3.1.df.gl.ev ko.ev) b j hj).2⟩)⟩ h2 rfl trivial
          rw [hρ] at k1
          refine ⟨_, results_run k1, _, ρ, rfl, rfl, ?_⟩
          have hj : ∀ k, J k σ' → J k ρ := fun k hk => hR.oth hk ko kO kb
          rcases hk with hk | hk
          · exact .inl (hj _ (h3.2.2 _ hk))
          · exact .inr (hj _ (h3.2.2 _ hk))
        cases e with
        | normal => simp [AE.of] at h4; subst h4; exact key h5
        | ret => simp [AE.of] at h4; subst h4; exact key h5
        | exit i => simp [AE.of] at h4; subst h4; exact h5.elim
        | goto l => simp [AE.of] at h4
        | panic c => obtain ⟨v, rfl, rfl⟩ := AE.of_panic h4; exact h5.elim
        | outgrown => simp [AE.of] at h4
      · have hlen := repL_len hx
        refine ⟨⟨hI, fun t => ?_, by show _ = fn.ntmps; simp at hn hlen ⊢; omega, DOK.nil hsz hgl⟩, fun n hn => by rw [hal n hn]; exact Nat.le_refl _, ?_⟩
        · simp only [lk]
          by_cases ht : gs = t
          · rw [if_pos ht]
            subst ht
            have h1 : vals.length ≤ fn.ntmps := by simp at hn hlen; omega
            have : ¬ gs < vals.length + (fn.ntmps - vals.length) := by omega
            simp [Rep, Array.getD, this]
          · rw [if_neg ht, envOf_lk]
            split
            · rename_i ht
              simp only [Nat.zero_le, Nat.zero_add, true_and] at ht
              have hg : (fst ++ AV.clo (.yield l) [] [] :: cps)[t]? = some (fst ++ AV.clo (.yield l) [] [] :: cps)[t] := List.getElem?_eq_getElem ht
              obtain ⟨x, g1, g2⟩ := repL_get hx t _ hg
              have e1 : (fst ++ AV.clo (.yield l) [] [] :: cps).getD (t - 0) .un = (fst ++ AV.clo (.yield l) [] [] :: cps)[t] := by simp [List.getD_eq_getElem?_getD, hg]
              have hlt' : t < vals.length := by omega
              have e2 : (vals.toArray ++ Array.replicate (fn.ntmps - vals.toArray.size) undef).getD t undef = x := by
                rw [List.getElem?_eq_getElem hlt'] at g1
                simp at g1
                simp [Array.getD_eq_getD_getElem?, Array.getElem?_append_left, hlt', g1]
              rw [e1, e2]; exact g2
            · simp [Rep]
        · intro k hk
          simp only [lk, if_true] at hk
          have : (0 : Int) = k := by simpa using hk
          rw [← this]; exact hJ
    · simp at hc
  · simp at hc
theorem itb_fnF {P : Program} {S : Tab} {m : Nm} {bc : List AV} (hS : TabOK P S) {f : Nat} {fn : Func} {c : AC} {fst cps : List AV} {xs : List (List AV)} (nt : Nat) (hf : P.funcs[f]? = some fn) (hc : cFun P fn = some (c, [])) (hnt : fn.ntmps = nt) (hgs : nt ≤ gs)
    (hn : (fst ++ cps).length < nt)
    (h : ∀ (l : Nat) (Γ : Ctx), Γ.OK → Γ.S = S → YieldRule Γ l xs → awp Γ c (itK xs.length) ⟨(gs, ghost 0) :: envOf 0 (fst ++ AV.clo (.yield l) [] [] :: cps), newc m 0 bc, m.2⟩) : ItB P f fst cps m bc xs :=
  itb_fn hS nt hf hc hnt hgs hn fun l hb J evo hR => h l _ (Ctx.it_ok hS) (Eq.refl _) fun i => awp_yieldF hS hR i

/-- At the end of a function that writes the cells of its box. -/
def effK (n : Nm) (cells : List AV) (r : AV) (us : List (Nat × AV)) (r' : AV) (s : St) : Prop := wk r' r ∧ ∀ j c, hl (wsOf n us ++ newc n 0 cells) (.c n j) = some c → hl s.hp (.c n j) = some c
theorem ecall_fn {P : Program} {S : Tab} (hS : TabOK P S) {f : Nat} {fn : Func} {c : AC} {rvs : List RV} {n : Nm} {args cells : List AV} {r : AV} {us : List (Nat × AV)} (nt : Nat) (hf : P.funcs[f]? = some fn) (hc : cFun P fn = some (c, rvs)) (hnt : fn.ntmps = nt) (hn : args.length ≤ nt)
    (h : ∀ hb, awp (Ctx.fn P S nt hb) c (inlK rvs (effK n cells r us)) ⟨envOf 0 args, newc n 0 cells, n.2⟩) : ECall P f n args cells r us := by
  intro σ vs hg hI hal hr
  refine callsIn_wide.1 ((inl_call hS hf hc hnt hn hg hI (cnt := n.2) (fun m hm => by rw [hal m hm]; exact Nat.le_refl _) hr (h _)).mono ?_)
  rintro en w' ⟨v, τ, s, r', rfl, rfl, ev, hτ, _, hv, hk1, hk2⟩
  exact ⟨v, τ, rfl, rfl, ev, fun j c hj => hτ.cel n j c (hk2 j c hj), wk_sound _ _ _ hk1 hv⟩
end Go.Proofs.YtdabfcbelkjmgaaDoor.Am
